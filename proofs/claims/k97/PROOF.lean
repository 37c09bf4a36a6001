import PyProof.Rows.All
import Wide.All
import OpenK.AllK
import Wide.FinOn
import HandS.ForMost
import HandS.Wide
import HandS.Star
import HandS.Style
import HandS.SortInts
import HandS.Deep
import HandS.Gcd
import PyProof.ReprRoads
import HandS.Ends
import HandS.Replace
import HandS.Codes
import KE.GoesMore
import PySem.Challenge.RW_reckonedbyhand_k97_whole_periods_of_part
set_option Elab.async false
set_option linter.all false
set_option maxRecDepth 100000
/-! PL1: the pure layer: plain data over the heap, ownership modes, judgements. -/
namespace PL
open PySem PySem.Spec L2

abbrev Ad := Addr → Prop
def un (S T : Ad) : Ad := fun a => S a ∨ T a
def wi (S : Ad) (p : Addr) : Ad := fun a => S a ∨ a = p
def no : Ad := fun _ => False

/-! ### data over the heap; lists, tuples, dicts that are tracked stand outside T -/
def KLs (K : PySem.W.Frag) (a : Addr) (xs : List V) : Prop :=
  ∃ (o : Obj) (its : Array Value) (n : Nat), K.lookup a = some o ∧ o.cls = .type "list" ∧ o.dict = none ∧ o.data = .seq its n ∧ its.size ≤ sizeLine ∧ Vals xs its.toList
def KTp (K : PySem.W.Frag) (a : Addr) (xs : List V) : Prop :=
  ∃ (o : Obj) (its : Array Value) (n : Nat), K.lookup a = some o ∧ o.cls = .type "tuple" ∧ o.data = .seq its n ∧ its.size ≤ sizeLine ∧ Vals xs its.toList
def LsA (K : PySem.W.Frag) (H : Hp) (T : Ad) (a : Addr) (xs : List V) : Prop := (Rd H a (.lst xs) ∧ ¬ T a) ∨ KLs K a xs
def TpA (K : PySem.W.Frag) (H : Hp) (T : Ad) (a : Addr) (xs : List V) : Prop := (Rd H a (.tup xs) ∧ ¬ T a) ∨ KTp K a xs
theorem LsA.sq {K : PySem.W.Frag} {H : Hp} {T : Ad} {a : Addr} {xs : List V} (h : LsA K H T a xs) : SqL K H a xs := h.imp (·.1) id
theorem TpA.sq {K : PySem.W.Frag} {H : Hp} {T : Ad} {a : Addr} {xs : List V} (h : TpA K H T a xs) : SqT K H a xs := h.imp (·.1) id

def keyD : PyData → Option Key
  | .int i => some (.inl i)
  | .str x => some (.inr x)
  | _ => none

mutual
def Rp (K : PySem.W.Frag) (H : Hp) (T : Ad) : PyData → V → Prop
  | .none, v => v = .non
  | .bool b, v => v = .bl b
  | .int i, v => v = .int i
  | .str x, v => v = .str x
  | .list ds, v => ∃ a xs, v = .ref a ∧ LsA K H T a xs ∧ RpA K H T ds xs
  | .tuple ds, v => ∃ a xs, v = .ref a ∧ TpA K H T a xs ∧ RpA K H T ds xs
  | .dict kvs, v => ∃ a es, v = .ref a ∧ (Rd H a (.dK es) ∧ ¬ T a) ∧ RpK K H T kvs es
def RpA (K : PySem.W.Frag) (H : Hp) (T : Ad) : List PyData → List V → Prop
  | [], xs => xs = []
  | d :: ds, xs => ∃ v vs, xs = v :: vs ∧ Rp K H T d v ∧ RpA K H T ds vs
def RpK (K : PySem.W.Frag) (H : Hp) (T : Ad) : List (PyData × PyData) → List (Key × V) → Prop
  | [], es => es = []
  | (k, d) :: ds, es => ∃ i v vs, es = (i, v) :: vs ∧ keyD k = some i ∧ Rp K H T d v ∧ RpK K H T ds vs
end

/-- from (H, T) to (H', T'): what is tracked outside T stands, and outside T' -/
def Mv (T : Ad) (H : Hp) (T' : Ad) (H' : Hp) : Prop := ∀ a o, H a = some o → ¬ T a → H' a = some o ∧ ¬ T' a
theorem Mv.refl {T : Ad} {H : Hp} : Mv T H T H := fun _ _ h n => ⟨h, n⟩
theorem Mv.trans {T T' T'' : Ad} {H H' H'' : Hp} (x : Mv T H T' H') (y : Mv T' H' T'' H'') : Mv T H T'' H'' := fun a o h n =>
  let ⟨h1, n1⟩ := x a o h n
  y a o h1 n1
theorem Mv.same {T : Ad} {H H' : Hp} (s : Same H H') : Mv T H T H' := fun a o h n => ⟨s a o h, n⟩
theorem Mv.less {T T' : Ad} {H : Hp} (s : ∀ a, T' a → T a) : Mv T H T' H := fun a o h n => ⟨h, fun z => n (s a z)⟩
theorem Mv.un {T T' U : Ad} {H H' : Hp} (x : Mv T H T' H') : Mv (un T U) H (PL.un T' U) H' := fun a o h n =>
  let ⟨h1, n1⟩ := x a o h fun z => n (.inl z)
  ⟨h1, fun z => z.elim n1 fun z => n (.inr z)⟩

section
variable {K : PySem.W.Frag} {H H' : Hp} {T T' : Ad} {a : Addr} {xs : List V} {u : HO}
theorem rd_mv (m : Mv T H T' H') (h : Rd H a u ∧ ¬ T a) : Rd H' a u ∧ ¬ T' a := by
  obtain ⟨h | ⟨o, h⟩, n⟩ := h
  · obtain ⟨h1, n1⟩ := m _ _ h n
    exact ⟨.inl h1, n1⟩
  · obtain ⟨h1, n1⟩ := m _ _ h n
    exact ⟨.inr ⟨o, h1⟩, n1⟩
theorem LsA.mv (m : Mv T H T' H') (h : LsA K H T a xs) : LsA K H' T' a xs := h.imp (rd_mv m) id
theorem TpA.mv (m : Mv T H T' H') (h : TpA K H T a xs) : TpA K H' T' a xs := h.imp (rd_mv m) id
mutual
theorem Rp.mv (m : Mv T H T' H') : ∀ (d : PyData) (v : V), Rp K H T d v → Rp K H' T' d v
  | .none, v, h => h
  | .bool _, v, h => h
  | .int _, v, h => h
  | .str _, v, h => h
  | .list ds, v, h => by
    obtain ⟨a, xs, e, h1, h2⟩ := h
    exact ⟨a, xs, e, h1.mv m, RpA.mv m ds xs h2⟩
  | .tuple ds, v, h => by
    obtain ⟨a, xs, e, h1, h2⟩ := h
    exact ⟨a, xs, e, h1.mv m, RpA.mv m ds xs h2⟩
  | .dict kvs, v, h => by
    obtain ⟨a, xs, e, h1, h2⟩ := h
    exact ⟨a, xs, e, rd_mv m h1, RpK.mv m kvs xs h2⟩
theorem RpA.mv (m : Mv T H T' H') : ∀ (ds : List PyData) (xs : List V), RpA K H T ds xs → RpA K H' T' ds xs
  | [], xs, h => h
  | d :: ds, xs, h => by
    obtain ⟨v, vs, e, h1, h2⟩ := h
    exact ⟨v, vs, e, Rp.mv m d v h1, RpA.mv m ds vs h2⟩
theorem RpK.mv (m : Mv T H T' H') : ∀ (ds : List (PyData × PyData)) (xs : List (Key × V)), RpK K H T ds xs → RpK K H' T' ds xs
  | [], xs, h => h
  | (k, d) :: ds, xs, h => by
    obtain ⟨i, v, vs, e, hk, h1, h2⟩ := h
    exact ⟨i, v, vs, e, hk, Rp.mv m d v h1, RpK.mv m ds vs h2⟩
end
theorem RpA.length : ∀ {ds : List PyData} {xs : List V}, RpA K H T ds xs → xs.length = ds.length
  | [], xs, h => by have e : xs = [] := h; rw [e]; rfl
  | d :: ds, xs, h => by
    obtain ⟨v, vs, rfl, h1, h2⟩ := h
    rw [List.length_cons, List.length_cons, RpA.length h2]
theorem RpA.append : ∀ {ds es : List PyData} {xs ys : List V}, RpA K H T ds xs → RpA K H T es ys → RpA K H T (ds ++ es) (xs ++ ys)
  | [], es, xs, ys, h, g => by have e : xs = [] := h; subst e; exact g
  | d :: ds, es, xs, ys, h, g => by
    obtain ⟨v, vs, rfl, h1, h2⟩ := h
    exact ⟨v, vs ++ ys, rfl, h1, RpA.append h2 g⟩
theorem RpA.one {d : PyData} {v : V} (h : Rp K H T d v) : RpA K H T [d] [v] := ⟨v, [], rfl, h, rfl⟩
theorem RpA.get : ∀ {ds : List PyData} {xs : List V} {i : Nat} {d : PyData}, RpA K H T ds xs → ds[i]? = some d → ∃ v, xs[i]? = some v ∧ Rp K H T d v
  | [], xs, i, d, h, e => by simp at e
  | d' :: ds, xs, 0, d, h, e => by
    obtain ⟨v, vs, rfl, h1, h2⟩ := h
    have e : d' = d := Option.some.inj e
    subst e
    exact ⟨v, rfl, h1⟩
  | d' :: ds, xs, i + 1, d, h, e => by
    obtain ⟨v, vs, rfl, h1, h2⟩ := h
    exact RpA.get (i := i) h2 e
theorem RpA.take : ∀ {ds : List PyData} {xs : List V} (n : Nat), RpA K H T ds xs → RpA K H T (ds.take n) (xs.take n)
  | [], xs, n, h => by have e : xs = [] := h; subst e; simp; rfl
  | d :: ds, xs, 0, h => by simp; rfl
  | d :: ds, xs, n + 1, h => by
    obtain ⟨v, vs, rfl, h1, h2⟩ := h
    exact ⟨v, vs.take n, rfl, h1, RpA.take n h2⟩
theorem RpA.drop : ∀ {ds : List PyData} {xs : List V} (n : Nat), RpA K H T ds xs → RpA K H T (ds.drop n) (xs.drop n)
  | [], xs, n, h => by have e : xs = [] := h; subst e; simp; rfl
  | d :: ds, xs, 0, h => by simpa using h
  | d :: ds, xs, n + 1, h => by
    obtain ⟨v, vs, rfl, h1, h2⟩ := h
    simpa using RpA.drop n h2
theorem RpA.rev : ∀ {ds : List PyData} {xs : List V}, RpA K H T ds xs → RpA K H T ds.reverse xs.reverse
  | [], xs, h => by have e : xs = [] := h; subst e; simp; rfl
  | d :: ds, xs, h => by
    obtain ⟨v, vs, rfl, h1, h2⟩ := h
    rw [List.reverse_cons, List.reverse_cons]
    exact (RpA.rev h2).append (.one h1)
theorem RpA.set : ∀ {ds : List PyData} {xs : List V} (i : Nat) {d : PyData} {v : V}, RpA K H T ds xs → Rp K H T d v → RpA K H T (ds.set i d) (xs.set i v)
  | [], xs, i, d, v, h, g => by have e : xs = [] := h; subst e; simp; rfl
  | d' :: ds, xs, 0, d, v, h, g => by
    obtain ⟨v', vs, rfl, h1, h2⟩ := h
    exact ⟨v, vs, rfl, g, h2⟩
  | d' :: ds, xs, i + 1, d, v, h, g => by
    obtain ⟨v', vs, rfl, h1, h2⟩ := h
    exact ⟨v', vs.set i v, rfl, h1, RpA.set i h2 g⟩
mutual
theorem Rp.dp : ∀ (d : PyData) (v : V), Rp K H T d v → (∀ kvs, d ≠ .dict kvs) → PyData.hasDict d = false → Dp K H v d
  | .none, v, h, _, _ => by have e : v = .non := h; rw [e]; exact .non
  | .bool b, v, h, _, _ => by have e : v = .bl b := h; rw [e]; exact .bl b
  | .int i, v, h, _, _ => by have e : v = .int i := h; rw [e]; exact .int i
  | .str i, v, h, _, _ => by have e : v = .str i := h; rw [e]; exact .str i
  | .list ds, v, h, _, n => by
    obtain ⟨a, xs, rfl, h1, h2⟩ := h
    exact .lst h1.sq (RpA.dp ds xs h2 (by simpa [PyData.hasDict] using n))
  | .tuple ds, v, h, _, n => by
    obtain ⟨a, xs, rfl, h1, h2⟩ := h
    exact .tup h1.sq (RpA.dp ds xs h2 (by simpa [PyData.hasDict] using n))
  | .dict kvs, v, h, n, _ => absurd rfl (n kvs)
theorem RpA.dp : ∀ (ds : List PyData) (xs : List V), RpA K H T ds xs → PyData.hasDictAll ds = false → DpAll K H xs ds
  | [], xs, h, _ => by have e : xs = [] := h; subst e; exact .nil
  | d :: ds, xs, h, n => by
    obtain ⟨v, vs, rfl, h1, h2⟩ := h
    have n' : d.hasDict = false ∧ PyData.hasDictAll ds = false := by simpa [PyData.hasDictAll] using n
    refine .cons (Rp.dp d v h1 ?_ n'.1) (RpA.dp ds vs h2 n'.2)
    rintro kvs rfl
    simp [PyData.hasDict] at n'
end
end

/-! ### the kinds of a value: a shared, b borrowed (its top may be owned), f fresh -/
inductive Kd | a | b | f
def Rb (K : PySem.W.Frag) (H : Hp) (T : Ad) (d : PyData) (v : V) : Prop :=
  Rp K H T d v ∨ (∃ ds a xs, d = .list ds ∧ v = .ref a ∧ Rd H a (.lst xs) ∧ RpA K H T ds xs) ∨ ∃ kvs a es, d = .dict kvs ∧ v = .ref a ∧ Rd H a (.dK es) ∧ RpK K H T kvs es
def Fr (K : PySem.W.Frag) (H H' : Hp) (T : Ad) (d : PyData) (v : V) : Prop :=
  ∃ p, v = .ref p ∧ H p = none ∧ ((∃ ds xs, d = .list ds ∧ H' p = some (.lst xs) ∧ RpA K H' (wi T p) ds xs) ∨ ∃ kvs es, d = .dict kvs ∧ H' p = some (.dK es) ∧ RpK K H' (wi T p) kvs es)
def RK : Kd → PySem.W.Frag → Hp → Hp → Ad → PyData → V → Prop
  | .a, K, _, H', T, d, v => Rp K H' T d v
  | .b, K, _, H', T, d, v => Rb K H' T d v
  | .f, K, H, H', T, d, v => Fr K H H' T d v
section
variable {K : PySem.W.Frag} {H H0 H' H'' : Hp} {T T' : Ad} {d : PyData} {v : V}
theorem Rb.mv (m : Mv T H T H') (h : Rb K H T d v) (s : Same H H') : Rb K H' T d v := by
  rcases h with h | ⟨ds, a, xs, rfl, rfl, h1, h2⟩ | ⟨ds, a, xs, rfl, rfl, h1, h2⟩
  · exact .inl (h.mv m)
  · refine .inr (.inl ⟨ds, a, xs, rfl, rfl, ?_, h2.mv m⟩)
    rcases h1 with h1 | ⟨o, h1⟩
    · exact .inl (s _ _ h1)
    · exact .inr ⟨o, s _ _ h1⟩
  · refine .inr (.inr ⟨ds, a, xs, rfl, rfl, ?_, h2.mv m⟩)
    rcases h1 with h1 | ⟨o, h1⟩
    · exact .inl (s _ _ h1)
    · exact .inr ⟨o, s _ _ h1⟩
theorem Fr.rp (h : Fr K H H' T d v) (hT : ∀ a, T a → H a ≠ none) : Rp K H' T d v := by
  obtain ⟨p, rfl, hp, ⟨ds, xs, rfl, h1, h2⟩ | ⟨ds, xs, rfl, h1, h2⟩⟩ := h
  · exact ⟨p, xs, rfl, .inl ⟨.inl h1, fun z => hT p z hp⟩, h2.mv (.less fun a z => .inl z)⟩
  · exact ⟨p, xs, rfl, ⟨.inl h1, fun z => hT p z hp⟩, h2.mv (.less fun a z => .inl z)⟩
theorem Fr.back (h : Fr K H H' T d v) (s : Same H0 H) : Fr K H0 H' T d v := by
  obtain ⟨p, rfl, hp, r⟩ := h
  exact ⟨p, rfl, s.free hp, r⟩
theorem RK.back {k : Kd} (h : RK k K H H' T d v) (s : Same H0 H) : RK k K H0 H' T d v := by
  cases k with
  | a => exact h
  | b => exact h
  | f => exact Fr.back h s
theorem RK.toB {k : Kd} (h : RK k K H H' T d v) (hT : ∀ a, T a → H a ≠ none) : Rb K H' T d v := by
  cases k with
  | a => exact .inl h
  | b => exact h
  | f => exact .inl (Fr.rp h hT)
end

/-! ### slots -/
inductive Mo | a | b | o
abbrev Sl := List (Option (Mo × PyData))
def Ow (K : PySem.W.Frag) (H : Hp) (T : Ad) (d : PyData) (a : Addr) : Prop :=
  (∃ ds xs, d = .list ds ∧ H a = some (.lst xs) ∧ RpA K H T ds xs) ∨ ∃ kvs es, d = .dict kvs ∧ H a = some (.dK es) ∧ RpK K H T kvs es
/-- borrowed: what a caller owns may be its top, what this def owns not -/
def Rbs (K : PySem.W.Frag) (H : Hp) (S T : Ad) (d : PyData) (v : V) : Prop :=
  Rp K H T d v ∨ (∃ ds a xs, d = .list ds ∧ v = .ref a ∧ (Rd H a (.lst xs) ∧ ¬ S a) ∧ RpA K H T ds xs) ∨ ∃ kvs a es, d = .dict kvs ∧ v = .ref a ∧ (Rd H a (.dK es) ∧ ¬ S a) ∧ RpK K H T kvs es
theorem Rbs.rb {K : PySem.W.Frag} {H : Hp} {S T : Ad} {d : PyData} {v : V} (h : Rbs K H S T d v) : Rb K H T d v :=
  h.imp id (Or.imp (fun ⟨ds, a, xs, e1, e2, e3, e4⟩ => ⟨ds, a, xs, e1, e2, e3.1, e4⟩) fun ⟨ds, a, xs, e1, e2, e3, e4⟩ => ⟨ds, a, xs, e1, e2, e3.1, e4⟩)
theorem Rbs.mv {K : PySem.W.Frag} {H H' : Hp} {S S' S0 : Ad} {d : PyData} {v : V} (m : Mv S H S' H') (h : Rbs K H S (un S S0) d v) : Rbs K H' S' (un S' S0) d v := by
  rcases h with h | ⟨ds, a, xs, rfl, rfl, h1, h2⟩ | ⟨ds, a, xs, rfl, rfl, h1, h2⟩
  · exact .inl (Rp.mv m.un _ _ h)
  · exact .inr (.inl ⟨ds, a, xs, rfl, rfl, rd_mv m h1, h2.mv m.un⟩)
  · exact .inr (.inr ⟨ds, a, xs, rfl, rfl, rd_mv m h1, h2.mv m.un⟩)
def SlV (K : PySem.W.Frag) (S0 S : Ad) (H : Hp) : Mo → PyData → V → Prop
  | .a, d, v => Rp K H (un S S0) d v
  | .b, d, v => Rbs K H S (un S S0) d v
  | .o, d, v => ∃ a, v = .ref a ∧ S a ∧ Ow K H (un S S0) d a
/-- the variables as told by sl; S0: what the callers may change, S: the lists that this def owns -/
structure EnvS (K : PySem.W.Frag) (S0 S : Ad) (H : Hp) (sl : Sl) (σ : St) : Prop where
  len : sl.length = σ.length
  dS : ∀ a, S a → H a ≠ none
  d0 : ∀ a, S0 a → H a ≠ none
  ap : ∀ a, S a → ¬ S0 a
  at_ : ∀ (i : Nat) (m : Mo) (d : PyData), sl[i]? = some (some (m, d)) → ∃ v, σ[i]? = some (some v) ∧ SlV K S0 S H m d v
  one : ∀ (i j : Nat) (d e : PyData) (v : V), i ≠ j → sl[i]? = some (some (.o, d)) → sl[j]? = some (some (.o, e)) → σ[i]? = some (some v) → σ[j]? ≠ some (some v)
section
variable {K : PySem.W.Frag} {H H0 H' H'' : Hp} {S0 S S' : Ad} {d : PyData} {v : V} {sl : Sl} {σ : St}
theorem EnvS.dT (E : EnvS K S0 S H sl σ) : ∀ a, un S S0 a → H a ≠ none := fun a h => h.elim (E.dS a) (E.d0 a)
theorem Ow.mv {T : Ad} {a : Addr} (s : Same H H') (h : Ow K H T d a) : Ow K H' T d a := by
  rcases h with ⟨ds, xs, rfl, h1, h2⟩ | ⟨ds, xs, rfl, h1, h2⟩
  · exact .inl ⟨ds, xs, rfl, s _ _ h1, h2.mv (.same s)⟩
  · exact .inr ⟨ds, xs, rfl, s _ _ h1, h2.mv (.same s)⟩
theorem SlV.same {m : Mo} (s : Same H H') (h : SlV K S0 S H m d v) : SlV K S0 S H' m d v := by
  cases m with
  | a => exact Rp.mv (.same s) d v h
  | b => exact Rbs.mv (.same s) h
  | o =>
    obtain ⟨a, e, h1, h2⟩ := h
    exact ⟨a, e, h1, h2.mv s⟩
theorem nn_same (s : Same H H') {a : Addr} (h : H a ≠ none) : H' a ≠ none := by
  cases e : H a with
  | none => exact absurd e h
  | some o => rw [s a o e]; simp
theorem EnvS.same (E : EnvS K S0 S H sl σ) (s : Same H H') : EnvS K S0 S H' sl σ where
  len := E.len
  dS := fun a h => nn_same s (E.dS a h)
  d0 := fun a h => nn_same s (E.d0 a h)
  ap := E.ap
  at_ := fun i m d h => by
    obtain ⟨v, h1, h2⟩ := E.at_ i m d h
    exact ⟨v, h1, h2.same s⟩
  one := E.one
end

/-! ### typed values -/
class Enc (τ : Type) where
  enc : τ → PyData
open Enc (enc)
instance : Enc Int := ⟨.int⟩
instance : Enc Bool := ⟨.bool⟩
instance : Enc Str := ⟨.str⟩
instance : Enc Unit := ⟨fun _ => .none⟩
instance {τ : Type} [Enc τ] : Enc (List τ) := ⟨fun xs => .list (xs.map enc)⟩
instance {τ : Type} [Enc τ] : Enc (Option τ) := ⟨fun x => match x with | none => .none | some t => enc t⟩
structure T2 (α β : Type) where
  mk ::
  a : α
  b : β
  deriving DecidableEq
structure T3 (α β γ : Type) where
  mk ::
  a : α
  b : β
  c : γ
  deriving DecidableEq
structure T4 (α β γ δ : Type) where
  mk ::
  a : α
  b : β
  c : γ
  d : δ
  deriving DecidableEq
instance {α β : Type} [Enc α] [Enc β] : Enc (T2 α β) := ⟨fun t => .tuple [enc t.a, enc t.b]⟩
instance {α β γ : Type} [Enc α] [Enc β] [Enc γ] : Enc (T3 α β γ) := ⟨fun t => .tuple [enc t.a, enc t.b, enc t.c]⟩
instance {α β γ δ : Type} [Enc α] [Enc β] [Enc γ] [Enc δ] : Enc (T4 α β γ δ) := ⟨fun t => .tuple [enc t.a, enc t.b, enc t.c, enc t.d]⟩

/-! ### the judgements -/
variable {Γ Γ' ρ τ α β : Type}
/-- an expression's reading -/
def tD [Enc τ] (K : PySem.W.Frag) (sl : Γ → Sl) (k : Kd) (f : Γ → Option τ) : TE := fun σ H Q =>
  ∃ (g : Γ) (S0 S : Ad) (t : τ), EnvS K S0 S H (sl g) σ ∧ f g = some t ∧ ∀ v H', Same H H' → RK k K H H' (un S S0) (enc t) v → Q v H'
def PV [Enc τ] (X : Cx) (sl : Γ → Sl) (k : Kd) (e : Expr) (f : Γ → Option τ) : Prop := PE X e (tD X.K sl k f)
/-- a test's -/
def tB (K : PySem.W.Frag) (sl : Γ → Sl) (f : Γ → Option Bool) : TT := fun σ H Q =>
  ∃ (g : Γ) (S0 S : Ad) (t : Bool), EnvS K S0 S H (sl g) σ ∧ f g = some t ∧ ∀ H', Same H H' → Q t H'
def PB (X : Cx) (sl : Γ → Sl) (e : Expr) (f : Γ → Option Bool) : Prop := PT X e (tB X.K sl f)
def PBw (X : Cx) (sl : Γ → Sl) (e : Expr) (f : Γ → Option Bool) : Prop := PW X e (tB X.K sl f)

theorem PE.imp {X : Cx} {e : Expr} {t t' : TE} (h : PE X e t) (i : ∀ σ H Q, t' σ H Q → t σ H Q) : PE X e t' := ⟨fun pins s σ H Q I q => h.run pins s σ H Q I (i σ H Q q)⟩
theorem PT.imp {X : Cx} {e : Expr} {t t' : TT} (h : PT X e t) (i : ∀ σ H Q, t' σ H Q → t σ H Q) : PT X e t' := ⟨fun pins s σ H Q I q => h.run pins s σ H Q I (i σ H Q q)⟩
theorem PW.imp {X : Cx} {e : Expr} {t t' : TT} (h : PW X e t) (i : ∀ σ H Q, t' σ H Q → t σ H Q) : PW X e t' := ⟨fun wh pins s σ H Q I q => h.run wh pins s σ H Q I (i σ H Q q)⟩
theorem PS.imp {X : Cx} {e : Stmt} {t t' : TS} (h : PS X e t) (i : ∀ D σ H, t' D σ H → t D σ H) : PS X e t' := ⟨fun pins s σ H Q I q => h.run pins s σ H Q I (i Q σ H q)⟩
theorem PSs.imp {X : Cx} {e : List Stmt} {t t' : TS} (h : PSs X e t) (i : ∀ D σ H, t' D σ H → t D σ H) : PSs X e t' := ⟨fun pins s σ H Q I q => h.run pins s σ H Q I (i Q σ H q)⟩
theorem PI.imp {X : Cx} {tg e : Expr} {t t' : TI} (h : PI X tg e t) (i : ∀ σ H Q, t' σ H Q → t σ H Q) : PI X tg e t' := ⟨fun pins s σ H Q I q => h.run pins s σ H Q I (i σ H Q q)⟩
theorem PA.imp {X : Cx} {e : List Expr} {t t' : TA} (h : PA X e t) (i : ∀ σ H Q, t' σ H Q → t σ H Q) : PA X e t' := ⟨fun pos pins s σ H Q I q => h.run pos pins s σ H Q I (i σ H Q q)⟩
theorem PO.imp {X : Cx} {e : Option Expr} {t t' : TO} (h : PO X e t) (i : ∀ σ H Q, t' σ H Q → t σ H Q) : PO X e t' := ⟨fun pins s σ H Q I q => h.run pins s σ H Q I (i σ H Q q)⟩
theorem PTs.imp {X : Cx} {e : List Expr} {t t' : TT} (h : PTs X e t) (i : ∀ σ H Q, t' σ H Q → t σ H Q) : PTs X e t' := ⟨fun pins s σ H Q I q => h.run pins s σ H Q I (i σ H Q q)⟩

end PL

/-! PL2: expressions. -/
namespace PL
open PySem PySem.Spec L2
open Enc (enc)

/-- texts by their signs -/
structure Tx where
  mk ::
  cs : List Nat
  deriving DecidableEq
instance : Enc Tx := ⟨fun t => .str ⟨t.cs.toArray⟩⟩

section
variable {K : PySem.W.Frag} {H : Hp} {T : Ad} {v : V}
theorem rb_int {i : Int} (h : Rb K H T (.int i) v) : v = .int i := by
  rcases h with h | ⟨_, _, _, e, _⟩ | ⟨_, _, _, e, _⟩
  · exact h
  · cases e
  · cases e
theorem rb_bool {i : Bool} (h : Rb K H T (.bool i) v) : v = .bl i := by
  rcases h with h | ⟨_, _, _, e, _⟩ | ⟨_, _, _, e, _⟩
  · exact h
  · cases e
  · cases e
theorem rb_str {i : Str} (h : Rb K H T (.str i) v) : v = .str i := by
  rcases h with h | ⟨_, _, _, e, _⟩ | ⟨_, _, _, e, _⟩
  · exact h
  · cases e
  · cases e
theorem rb_none (h : Rb K H T .none v) : v = .non := by
  rcases h with h | ⟨_, _, _, e, _⟩ | ⟨_, _, _, e, _⟩
  · exact h
  · cases e
  · cases e
theorem rb_tup {ds : List PyData} (h : Rb K H T (.tuple ds) v) : ∃ a xs, v = .ref a ∧ SqT K H a xs ∧ RpA K H T ds xs := by
  rcases h with ⟨a, xs, e, h1, h2⟩ | ⟨_, _, _, e, _⟩ | ⟨_, _, _, e, _⟩
  · exact ⟨a, xs, e, h1.sq, h2⟩
  · cases e
  · cases e
theorem rb_list {ds : List PyData} (h : Rb K H T (.list ds) v) : ∃ a xs, v = .ref a ∧ SqL K H a xs ∧ RpA K H T ds xs := by
  rcases h with ⟨a, xs, e, h1, h2⟩ | ⟨_, a, xs, e, rfl, h1, h2⟩ | ⟨_, _, _, e, _⟩
  · exact ⟨a, xs, e, h1.sq, h2⟩
  · cases e
    exact ⟨a, xs, rfl, .inl h1, h2⟩
  · cases e
theorem rpa_map {τ : Type} (g : τ → V) {e : τ → PyData} (h : ∀ t w, Rp K H T (e t) w → w = g t) : ∀ {xs : List τ} {vs : List V}, RpA K H T (xs.map e) vs → vs = xs.map g
  | [], vs, q => q
  | x :: xs, vs, q => by
    obtain ⟨v, ws, rfl, h1, h2⟩ := q
    rw [List.map_cons, h x v h1, rpa_map g h h2]
theorem rpa_int {xs : List Int} {vs : List V} (h : RpA K H T (xs.map enc) vs) : vs = xs.map V.int := rpa_map (e := fun i : Int => enc i) V.int (fun t w q => show w = V.int t from q) h
theorem rpa_bool {xs : List Bool} {vs : List V} (h : RpA K H T (xs.map enc) vs) : vs = xs.map V.bl := rpa_map (e := fun i : Bool => enc i) V.bl (fun t w q => show w = V.bl t from q) h
theorem rpa_tx {xs : List Tx} {vs : List V} (h : RpA K H T (xs.map enc) vs) : vs = (xs.map fun t => (⟨t.cs.toArray⟩ : Str)).map V.str := by
  rw [List.map_map]
  exact rpa_map (e := fun i : Tx => enc i) (fun t => V.str ⟨t.cs.toArray⟩) (fun t w q => show w = V.str ⟨t.cs.toArray⟩ from q) h
end

variable {Γ Γ' ρ τ α β : Type} {X : Cx} {sl : Γ → Sl} {e a b c : Expr} {k k1 k2 k3 : Kd} {pos : Pos}

theorem bind2 {f : Option α} {g : Option β} {h : α → β → Option τ} {t : τ} (e : (f.bind fun x => g.bind fun y => h x y) = some t) : ∃ x y, f = some x ∧ g = some y ∧ h x y = some t := by
  cases f with
  | none => cases e
  | some x =>
    cases g with
    | none => cases e
    | some y => exact ⟨x, y, rfl, rfl, e⟩
theorem bind1 {f : Option α} {h : α → Option τ} {t : τ} (e : (f.bind fun x => h x) = some t) : ∃ x, f = some x ∧ h x = some t := by
  cases f with
  | none => cases e
  | some x => exact ⟨x, rfl, e⟩
/-! ### from kind to kind -/
theorem PV.ab [Enc τ] {f : Γ → Option τ} (h : PV X sl .a e f) : PV X sl .b e f := PE.imp h fun σ H Q ⟨g, S0, S, t, E, hf, q⟩ => ⟨g, S0, S, t, E, hf, fun v H' s r => q v H' s (.inl r)⟩
theorem PV.fa [Enc τ] {f : Γ → Option τ} (h : PV X sl .f e f) : PV X sl .a e f := PE.imp h fun σ H Q ⟨g, S0, S, t, E, hf, q⟩ => ⟨g, S0, S, t, E, hf, fun v H' s r => q v H' s (Fr.rp r E.dT)⟩
theorem PV.fb [Enc τ] {f : Γ → Option τ} (h : PV X sl .f e f) : PV X sl .b e f := h.fa.ab
/-- what is no list and no dict is never owned -/
class NoL (τ : Type) [Enc τ] : Prop where
  nl : ∀ (t : τ), (∀ ds, enc t ≠ .list ds) ∧ ∀ ds, enc t ≠ .dict ds
instance : NoL Int := ⟨fun _ => ⟨nofun, nofun⟩⟩
instance : NoL Bool := ⟨fun _ => ⟨nofun, nofun⟩⟩
instance : NoL Tx := ⟨fun _ => ⟨nofun, nofun⟩⟩
instance : NoL Unit := ⟨fun _ => ⟨nofun, nofun⟩⟩
instance {α β : Type} [Enc α] [Enc β] : NoL (T2 α β) := ⟨fun _ => ⟨nofun, nofun⟩⟩
instance {α β γ : Type} [Enc α] [Enc β] [Enc γ] : NoL (T3 α β γ) := ⟨fun _ => ⟨nofun, nofun⟩⟩
instance {α β γ δ : Type} [Enc α] [Enc β] [Enc γ] [Enc δ] : NoL (T4 α β γ δ) := ⟨fun _ => ⟨nofun, nofun⟩⟩
instance {α : Type} [Enc α] [NoL α] : NoL (Option α) := ⟨fun t => match t with
  | none => ⟨nofun, nofun⟩
  | some t => NoL.nl t⟩
theorem Rb.rp {K : PySem.W.Frag} {H : Hp} {T : Ad} {v : V} [Enc τ] [NoL τ] {t : τ} (h : Rb K H T (enc t) v) : Rp K H T (enc t) v := by
  rcases h with h | ⟨ds, _, _, e, _⟩ | ⟨ds, _, _, e, _⟩
  · exact h
  · exact absurd e ((NoL.nl t).1 ds)
  · exact absurd e ((NoL.nl t).2 ds)
theorem PV.ba [Enc τ] [NoL τ] {f : Γ → Option τ} (h : PV X sl .b e f) : PV X sl .a e f := PE.imp h fun σ H Q ⟨g, S0, S, t, E, hf, q⟩ => ⟨g, S0, S, t, E, hf, fun v H' s r => q v H' s (Rb.rp r)⟩
/-- what is known to be there -/
theorem PV.cast [Enc τ] {f : Γ → Option (Option τ)} (h : PV X sl k e f) : PV X sl k e (fun g => (f g).bind fun t => t) := PE.imp h fun σ H Q ⟨g, S0, S, t, E, hf, q⟩ => by
  obtain ⟨u, h1, hf⟩ := bind1 hf
  have hf : u = some t := hf
  subst hf
  exact ⟨g, S0, S, some t, E, h1, q⟩
theorem PV.opt [Enc τ] {f : Γ → Option τ} (h : PV X sl k e f) : PV X sl k e (fun g => (f g).bind fun t => some (some t)) := PE.imp h fun σ H Q ⟨g, S0, S, t, E, hf, q⟩ => by
  obtain ⟨u, h1, hf⟩ := bind1 hf
  have hf : some u = t := Option.some.inj hf
  subst hf
  exact ⟨g, S0, S, u, E, h1, q⟩
/-- another way to write the plain function -/
theorem PV.eq [Enc τ] {f f' : Γ → Option τ} (h : PV X sl k e f) (h' : f' = f) : PV X sl k e f' := h' ▸ h

/-! ### names, constants -/
theorem pv_var [Enc τ] {i : Nat} {x : Str} (p : Γ → τ) (h : ∀ g, (sl g)[i]? = some (some (.a, enc (p g)))) (hN : X.N[i]? = some x := by rfl)
    (hv : Vis X.env.scope x := by first | exact Or.inl rfl | exact Or.inr (Or.inl rfl) | exact Or.inr (Or.inr rfl)) (hd : (x == ("__debug__" : Str)) = false := by decide) (hcd : (x == ("__classdict__" : Str)) = false := by decide) :
    PV X sl .a (.Name x pos) (fun g => some (p g)) := PE.imp (pe_var (i := i) hN hv hd hcd) fun σ H Q ⟨g, S0, S, t, E, hf, q⟩ => by
  obtain ⟨v, h1, h2⟩ := E.at_ i _ _ (h g)
  cases hf
  exact ⟨v, h1, q v H (Same.refl H) h2⟩
theorem pv_varb [Enc τ] {i : Nat} {x : Str} (p : Γ → τ) (h : ∀ g, (sl g)[i]? = some (some (.b, enc (p g)))) (hN : X.N[i]? = some x := by rfl)
    (hv : Vis X.env.scope x := by first | exact Or.inl rfl | exact Or.inr (Or.inl rfl) | exact Or.inr (Or.inr rfl)) (hd : (x == ("__debug__" : Str)) = false := by decide) (hcd : (x == ("__classdict__" : Str)) = false := by decide) :
    PV X sl .b (.Name x pos) (fun g => some (p g)) := PE.imp (pe_var (i := i) hN hv hd hcd) fun σ H Q ⟨g, S0, S, t, E, hf, q⟩ => by
  obtain ⟨v, h1, h2⟩ := E.at_ i _ _ (h g)
  cases hf
  exact ⟨v, h1, q v H (Same.refl H) h2.rb⟩
theorem pv_varo [Enc τ] {i : Nat} {x : Str} (p : Γ → τ) (h : ∀ g, (sl g)[i]? = some (some (.o, enc (p g)))) (hN : X.N[i]? = some x := by rfl)
    (hv : Vis X.env.scope x := by first | exact Or.inl rfl | exact Or.inr (Or.inl rfl) | exact Or.inr (Or.inr rfl)) (hd : (x == ("__debug__" : Str)) = false := by decide) (hcd : (x == ("__classdict__" : Str)) = false := by decide) :
    PV X sl .b (.Name x pos) (fun g => some (p g)) := PE.imp (pe_var (i := i) hN hv hd hcd) fun σ H Q ⟨g, S0, S, t, E, hf, q⟩ => by
  obtain ⟨v, h1, a, e, h2, h3⟩ := E.at_ i _ _ (h g)
  cases hf
  refine ⟨v, h1, q v H (Same.refl H) ?_⟩
  rcases h3 with ⟨ds, xs, e1, e2, e3⟩ | ⟨ds, xs, e1, e2, e3⟩
  · exact .inr (.inl ⟨ds, a, xs, e1, e, .inl e2, e3⟩)
  · exact .inr (.inr ⟨ds, a, xs, e1, e, .inl e2, e3⟩)
theorem pv_c [Enc τ] {v : V} (t : τ) (he : PE X e (tC v)) (h : ∀ K H T, Rp K H T (enc t) v) : PV X sl .a e (fun _ => some t) := PE.imp he fun σ H Q ⟨g, S0, S, t', E, hf, q⟩ => by
  cases hf
  exact q v H (Same.refl H) (h _ _ _)
theorem pv_int {i : Int} {j} : PV X sl .a (.Constant (.int i) j pos) (fun _ => some i) := pv_c i pe_int fun _ _ _ => rfl
theorem pv_bool {i : Bool} {j} : PV X sl .a (.Constant (.bool i) j pos) (fun _ => some i) := pv_c i pe_bl fun _ _ _ => rfl
theorem pv_none {j} : PV X sl .a (.Constant .none j pos) (fun _ => some ()) := pv_c () pe_non fun _ _ _ => rfl
/-- None where something may be -/
theorem pv_noneO [Enc τ] {j} : PV X sl .a (.Constant .none j pos) (fun _ => some (none : Option τ)) := pv_c none pe_non fun _ _ _ => rfl
theorem pv_str {x : Str} {j} (l : List Nat) (h : x = ⟨l.toArray⟩ := by decide +kernel) : PV X sl .a (.Constant (.str x) j pos) (fun _ => some (⟨l⟩ : Tx)) := pv_c _ pe_str fun _ _ _ => by rw [h]; rfl
/-- a module's constant -/
theorem pv_gint {x : Str} {i : Int} {u : Value} (hg : Gl X x) (hm : X.mg x = some u) (r : RelV (.int i) u) (hd : (x == ("__debug__" : Str)) = false := by decide) : PV X sl .a (.Name x pos) (fun _ => some i) :=
  pv_c i (pe_glob hg hm r hd) fun _ _ _ => rfl
theorem pv_gstr {x y : Str} {u : Value} (l : List Nat) (hg : Gl X x) (hm : X.mg x = some u) (r : RelV (.str y) u) (h : y = ⟨l.toArray⟩ := by decide +kernel) (hd : (x == ("__debug__" : Str)) = false := by decide) : PV X sl .a (.Name x pos) (fun _ => some (⟨l⟩ : Tx)) :=
  pv_c _ (pe_glob hg hm r hd) fun _ _ _ => by rw [h]; rfl

/-! ### operations by values -/
/-- what a two-place rule asks, in plain words -/
def Ask2 [Enc α] [Enc β] [Enc τ] (K : PySem.W.Frag) (r : R2) (k : Kd) (g : α → β → Option τ) : Prop :=
  ∀ (T : Ad) (H : Hp) (x y : V) (u : α) (w : β) (t : τ) (Q : VK), (∀ a, T a → H a ≠ none) → Rb K H T (enc u) x → Rb K H T (enc w) y → g u w = some t → (∀ v H', Same H H' → RK k K H H' T (enc t) v → Q v H') → r x y H Q
def Ask1 [Enc α] [Enc τ] (K : PySem.W.Frag) (r : V → Hp → VK → Prop) (k : Kd) (g : α → Option τ) : Prop :=
  ∀ (T : Ad) (H : Hp) (x : V) (u : α) (t : τ) (Q : VK), (∀ a, T a → H a ≠ none) → Rb K H T (enc u) x → g u = some t → (∀ v H', Same H H' → RK k K H H' T (enc t) v → Q v H') → r x H Q
theorem pv_2 [Enc α] [Enc β] [Enc τ] {r : R2} {fa : Γ → Option α} {fb : Γ → Option β} {g : α → β → Option τ} (h : ∀ {ta tb : TE}, PE X a ta → PE X b tb → PE X e (tOp r ta tb)) (ask : Ask2 X.K r k g)
    (ha : PV X sl .b a fa) (hb : PV X sl .b b fb) : PV X sl k e (fun s => (fa s).bind fun x => (fb s).bind fun y => g x y) := PE.imp (h ha hb) fun σ H Q ⟨γ, S0, S, t, E, hf, q⟩ => by
  obtain ⟨u, w, h1, h2, h3⟩ := bind2 hf
  refine ⟨γ, S0, S, u, E, h1, fun x H1 s1 r1 => ⟨γ, S0, S, w, E.same s1, h2, fun y H2 s2 r2 => ?_⟩⟩
  have s12 := s1.trans s2
  exact ask (un S S0) H2 x y u w t Q (E.same s12).dT (Rb.mv (.same s2) r1 s2) r2 h3 fun v H' s3 r3 => q v H' (s12.trans s3) (r3.back s12)
theorem pv_1 [Enc α] [Enc τ] {r : V → Hp → VK → Prop} {fa : Γ → Option α} {g : α → Option τ} (h : ∀ {ta : TE}, PE X a ta → PE X e (tUn r ta)) (ask : Ask1 X.K r k g)
    (ha : PV X sl .b a fa) : PV X sl k e (fun s => (fa s).bind fun x => g x) := PE.imp (h ha) fun σ H Q ⟨γ, S0, S, t, E, hf, q⟩ => by
  obtain ⟨u, h1, h3⟩ := bind1 hf
  refine ⟨γ, S0, S, u, E, h1, fun x H1 s1 r1 => ?_⟩
  exact ask (un S S0) H1 x u t Q (E.same s1).dT r1 h3 fun v H' s3 r3 => q v H' (s1.trans s3) (r3.back s1)
/-- a call of a known function with one value, with two -/
theorem pv_c1 [Enc α] [Enc τ] {r : List V → Hp → VK → Prop} {fa : Γ → Option α} {g : α → Option τ} (h : ∀ {ta : TE}, PE X a ta → PE X e (tCB r (tCons ta tNil))) (ask : Ask1 X.K (fun x => r [x]) k g)
    (ha : PV X sl .b a fa) : PV X sl k e (fun s => (fa s).bind fun x => g x) := pv_1 (r := fun x => r [x]) (fun {ta} h' => h h') ask ha
theorem pv_c2 [Enc α] [Enc β] [Enc τ] {r : List V → Hp → VK → Prop} {fa : Γ → Option α} {fb : Γ → Option β} {g : α → β → Option τ} (h : ∀ {ta tb : TE}, PE X a ta → PE X b tb → PE X e (tCB r (tCons ta (tCons tb tNil)))) (ask : Ask2 X.K (fun x y => r [x, y]) k g)
    (ha : PV X sl .b a fa) (hb : PV X sl .b b fb) : PV X sl k e (fun s => (fa s).bind fun x => (fb s).bind fun y => g x y) := pv_2 (r := fun x y => r [x, y]) (fun {ta tb} h1 h2 => h h1 h2) ask ha hb

/-! ### ints -/
def iMod (x y : Int) : Option Int := if 0 < y then some (x % y) else none
def iDiv (x y : Int) : Option Int := if 0 < y ∧ y.natAbs.log2 < 9000 then some (x / y) else none
def iMul (x y : Int) : Option Int := if x.natAbs.log2 + y.natAbs.log2 < 1000000 then some (x * y) else none
def iPow (x y : Int) : Option Int := if 0 ≤ y ∧ y ≤ 1000000 ∧ x.natAbs < 2 ^ 64 then some (x ^ y.toNat) else none
theorem if_some {p : Prop} [Decidable p] {x t : τ} (h : (if p then some x else none) = some t) : p ∧ x = t := by
  by_cases hp : p
  · rw [if_pos hp] at h; exact ⟨hp, Option.some.inj h⟩
  · rw [if_neg hp] at h; cases h
theorem ask_rI {C : Int → Int → Prop} {f : Int → Int → V} [Enc τ] {g : Int → Int → Option τ} {K : PySem.W.Frag} (h : ∀ x y t, g x y = some t → C x y ∧ ∀ K H T, Rp K H T (enc t) (f x y)) : Ask2 K (rI C f) .a g := by
  intro T H x y u w t Q hT r1 r2 e q
  obtain ⟨hc, hr⟩ := h u w t e
  exact ⟨u, w, rb_int r1, rb_int r2, hc, q _ H (Same.refl H) (hr _ _ _)⟩
theorem ask_rI0 {f : Int → Int → V} [Enc τ] {g : Int → Int → Option τ} {K : PySem.W.Frag} (h : ∀ x y t, g x y = some t → ∀ K H T, Rp K H T (enc t) (f x y)) : Ask2 K (rI0 f) .a g := by
  intro T H x y u w t Q hT r1 r2 e q
  exact ⟨u, w, rb_int r1, rb_int r2, q _ H (Same.refl H) (h u w t e _ _ _)⟩
section
variable {fa fb fc : Γ → Option Int}
theorem pv_add (ha : PV X sl .b a fa) (hb : PV X sl .b b fb) : PV X sl .a (.BinOp a .Add b pos) (fun s => (fa s).bind fun x => (fb s).bind fun y => some (x + y)) :=
  pv_2 (pe_op op_add) (ask_rI0 fun x y t e K H T => by cases e; rfl) ha hb
theorem pv_sub (ha : PV X sl .b a fa) (hb : PV X sl .b b fb) : PV X sl .a (.BinOp a .Sub b pos) (fun s => (fa s).bind fun x => (fb s).bind fun y => some (x - y)) :=
  pv_2 (pe_op op_sub) (ask_rI0 fun x y t e K H T => by cases e; rfl) ha hb
theorem pv_mul (ha : PV X sl .b a fa) (hb : PV X sl .b b fb) : PV X sl .a (.BinOp a .Mult b pos) (fun s => (fa s).bind fun x => (fb s).bind fun y => iMul x y) :=
  pv_2 (pe_op op_mulW) (ask_rI fun x y t e => by obtain ⟨h1, rfl⟩ := if_some e; exact ⟨h1, fun _ _ _ => rfl⟩) ha hb
theorem pv_div (ha : PV X sl .b a fa) (hb : PV X sl .b b fb) : PV X sl .a (.BinOp a .FloorDiv b pos) (fun s => (fa s).bind fun x => (fb s).bind fun y => iDiv x y) :=
  pv_2 (pe_op op_fdivW) (ask_rI fun x y t e => by obtain ⟨h1, rfl⟩ := if_some e; exact ⟨h1, fun _ _ _ => rfl⟩) ha hb
theorem pv_mod (ha : PV X sl .b a fa) (hb : PV X sl .b b fb) : PV X sl .a (.BinOp a .Mod b pos) (fun s => (fa s).bind fun x => (fb s).bind fun y => iMod x y) :=
  pv_2 (pe_op op_mod) (ask_rI fun x y t e => by obtain ⟨h1, rfl⟩ := if_some e; exact ⟨h1, fun _ _ _ => rfl⟩) ha hb
theorem pv_pow (ha : PV X sl .b a fa) (hb : PV X sl .b b fb) : PV X sl .a (.BinOp a .Pow b pos) (fun s => (fa s).bind fun x => (fb s).bind fun y => iPow x y) :=
  pv_2 (pe_op op_pow) (ask_rI fun x y t e => by obtain ⟨h1, rfl⟩ := if_some e; exact ⟨h1, fun _ _ _ => rfl⟩) ha hb
theorem pv_neg (ha : PV X sl .b a fa) : PV X sl .a (.UnaryOp .USub a pos) (fun s => (fa s).bind fun x => some (-x)) :=
  pv_1 (pe_un un_neg) (fun T H x u t Q hT r e q => ⟨u, rb_int r, q _ H (Same.refl H) (by cases e; rfl)⟩) ha

/-! ### comparisons of ints -/
/-- a comparison's rule: values to a truth value -/
structure Cmp (X : Cx) (op : CmpOp) (α β : Type) [Enc α] [Enc β] (g : α → β → Option Bool) where
  r : R2
  rule : OpR X (compareOp op) r
  ask : Ask2 X.K r .a g
def c_lt : Cmp X .Lt Int Int (fun x y => some (decide (x < y))) := ⟨_, op_lt, ask_rI0 fun x y t e K H T => by cases e; rfl⟩
def c_le : Cmp X .LtE Int Int (fun x y => some (decide (x ≤ y))) := ⟨_, op_le, ask_rI0 fun x y t e K H T => by cases e; rfl⟩
def c_gt : Cmp X .Gt Int Int (fun x y => some (decide (x > y))) := ⟨_, op_gt, ask_rI0 fun x y t e K H T => by cases e; rfl⟩
def c_ge : Cmp X .GtE Int Int (fun x y => some (decide (x ≥ y))) := ⟨_, op_ge, ask_rI0 fun x y t e K H T => by cases e; rfl⟩
end
end PL

/-! PL3: comparisons, tests, data, lists. -/
namespace PL
open PySem PySem.Spec L2
open Enc (enc)

variable {Γ Γ' ρ τ α β γ' : Type} {X : Cx} {sl : Γ → Sl} {e a b c : Expr} {k k1 k2 k3 : Kd} {pos : Pos}
section
variable [Enc α] [Enc β] [Enc γ'] {op op' : CmpOp} {g : α → β → Option Bool} {g' : β → γ' → Option Bool} {fa : Γ → Option α} {fb : Γ → Option β} {fc : Γ → Option γ'}
theorem pv_cmp (C : Cmp X op α β g) (ha : PV X sl .b a fa) (hb : PV X sl .b b fb) (hm : behindInMarks op b = false := by first | exact nomark _ | with_unfolding_all rfl) : PV X sl .a (.Compare a [op] [b] pos) (fun s => (fa s).bind fun x => (fb s).bind fun y => g x y) :=
  pv_2 (fun h1 h2 => pe_cmpR C.rule h1 h2 hm) C.ask ha hb
/-- a value that is a truth value, as a test's reading -/
theorem tB_of {K : PySem.W.Frag} {f : Γ → Option Bool} {σ : L2.St} {H : Hp} {Q : Bool → Hp → Prop} (h : tB K sl f σ H Q) : tD K sl .a f σ H fun v H' => ∃ k, v = .bl k ∧ Q k H' := by
  obtain ⟨g, S0, S, t, E, hf, q⟩ := h
  exact ⟨g, S0, S, t, E, hf, fun v H' s r => ⟨t, r, q H' s⟩⟩
theorem pb_cmp (C : Cmp X op α β g) (ha : PV X sl .b a fa) (hb : PV X sl .b b fb) (hm : behindInMarks op b = false := by first | exact nomark _ | with_unfolding_all rfl) : PB X sl (.Compare a [op] [b] pos) (fun s => (fa s).bind fun x => (fb s).bind fun y => g x y) :=
  PT.imp (pt_cmpR C.rule ha hb hm) fun σ H Q h => by
    obtain ⟨γ, S0, S, t, E, hf, q⟩ := h
    obtain ⟨u, w, h1, h2, h3⟩ := bind2 hf
    refine ⟨γ, S0, S, u, E, h1, fun x H1 s1 r1 => ⟨γ, S0, S, w, E.same s1, h2, fun y H2 s2 r2 => ?_⟩⟩
    have s12 := s1.trans s2
    exact C.ask (un S S0) H2 x y u w t _ (E.same s12).dT (Rb.mv (.same s2) r1 s2) r2 h3 fun v H' s3 r3 => ⟨t, r3, q H' (s12.trans s3)⟩
theorem pv_val {f : Γ → Option Bool} (h : PV X sl .a e f) (he : ∀ whole, isTrue e X.env whole = (do let v ← whole; standAt e.pos; holding [v] (truthy v)) := by intro _; rfl) : PB X sl e f :=
  PT.imp (pt_val h he) fun σ H Q h => tB_of h
theorem pv_chain (C : Cmp X op α β g) (C' : Cmp X op' β γ' g') (ha : PV X sl .b a fa) (hb : PV X sl .b b fb) (hc : PV X sl .b c fc) (hm : lastMarks [op, op'] [b, c] = false := by with_unfolding_all rfl) :
    PV X sl .a (.Compare a [op, op'] [b, c] pos) (fun s => (fa s).bind fun x => (fb s).bind fun y => (g x y).bind fun t => if t = true then (fc s).bind fun z => g' y z else some false) :=
  PE.imp (pe_chain C.rule C'.rule ha hb hc hm) fun σ H Q h => by
    obtain ⟨γ, S0, S, t, E, hf, q⟩ := h
    obtain ⟨u, w, h1, h2, h3⟩ := bind2 hf
    obtain ⟨t1, h4, h5⟩ := bind1 h3
    refine ⟨γ, S0, S, u, E, h1, fun x H1 s1 r1 => ⟨γ, S0, S, w, E.same s1, h2, fun y H2 s2 r2 => ?_⟩⟩
    have s12 := s1.trans s2
    refine C.ask (un S S0) H2 x y u w t1 _ (E.same s12).dT (Rb.mv (.same s2) r1 s2) r2 h4 fun v H3 s3 r3 => ⟨t1, r3, ?_⟩
    have s13 := s12.trans s3
    cases t1 with
    | false =>
      cases h5
      exact q _ H3 s13 rfl
    | true =>
      obtain ⟨z, h6, h7⟩ := bind1 h5
      refine ⟨γ, S0, S, z, E.same s13, h6, fun z' H4 s4 r4 => ?_⟩
      have s14 := s13.trans s4
      exact C'.ask (un S S0) H4 y z' w z t Q (E.same s14).dT (Rb.mv (.same (s3.trans s4)) r2 (s3.trans s4)) r4 h7 fun v H5 s5 r5 => q v H5 (s14.trans s5) r5
theorem pb_chain (C : Cmp X op α β g) (C' : Cmp X op' β γ' g') (ha : PV X sl .b a fa) (hb : PV X sl .b b fb) (hc : PV X sl .b c fc) (hm : lastMarks [op, op'] [b, c] = false := by with_unfolding_all rfl) :
    PB X sl (.Compare a [op, op'] [b, c] pos) (fun s => (fa s).bind fun x => (fb s).bind fun y => (g x y).bind fun t => if t = true then (fc s).bind fun z => g' y z else some false) :=
  PT.imp (pt_chain C.rule C'.rule ha hb hc hm) fun σ H Q h => by
    obtain ⟨γ, S0, S, t, E, hf, q⟩ := h
    obtain ⟨u, w, h1, h2, h3⟩ := bind2 hf
    obtain ⟨t1, h4, h5⟩ := bind1 h3
    refine ⟨γ, S0, S, u, E, h1, fun x H1 s1 r1 => ⟨γ, S0, S, w, E.same s1, h2, fun y H2 s2 r2 => ?_⟩⟩
    have s12 := s1.trans s2
    refine C.ask (un S S0) H2 x y u w t1 _ (E.same s12).dT (Rb.mv (.same s2) r1 s2) r2 h4 fun v H3 s3 r3 => ⟨t1, r3, ?_⟩
    have s13 := s12.trans s3
    cases t1 with
    | false =>
      cases h5
      exact ⟨false, rfl, q H3 s13⟩
    | true =>
      obtain ⟨z, h6, h7⟩ := bind1 h5
      refine ⟨γ, S0, S, z, E.same s13, h6, fun z' H4 s4 r4 => ?_⟩
      have s14 := s13.trans s4
      exact C'.ask (un S S0) H4 y z' w z t _ (E.same s14).dT (Rb.mv (.same (s3.trans s4)) r2 (s3.trans s4)) r4 h7 fun v H5 s5 r5 => ⟨t, r5, q H5 (s14.trans s5)⟩
end

/-! ### and, or, not; if-expressions -/
section
variable {fa fb : Γ → Option Bool} {rest : List Expr}
theorem pb_not (ha : PB X sl a fa) : PB X sl (.UnaryOp .Not a pos) (fun s => (fa s).bind fun x => some (!x)) := PT.imp (pt_not ha) fun σ H Q ⟨γ, S0, S, t, E, hf, q⟩ => by
  obtain ⟨x, h1, h2⟩ := bind1 hf
  cases h2
  exact ⟨γ, S0, S, x, E, h1, fun H' s => q H' s⟩
theorem pb_and1 (ha : PB X sl a fa) : PBw X sl (.BoolOp .And [a] pos) fa := pw_and1 ha
theorem pb_or1 (ha : PB X sl a fa) : PBw X sl (.BoolOp .Or [a] pos) fa := pw_or1 ha
theorem pb_and (ha : PB X sl a fa) (hb : PBw X sl (.BoolOp .And (b :: rest) pos) fb) : PBw X sl (.BoolOp .And (a :: b :: rest) pos) (fun s => (fa s).bind fun x => if x = true then fb s else some false) :=
  PW.imp (pw_and ha hb) fun σ H Q ⟨γ, S0, S, t, E, hf, q⟩ => by
    obtain ⟨x, h1, h2⟩ := bind1 hf
    refine ⟨γ, S0, S, x, E, h1, fun H1 s1 => ?_⟩
    cases x with
    | false => cases h2; exact q H1 s1
    | true => exact ⟨γ, S0, S, t, E.same s1, h2, fun H2 s2 => q H2 (s1.trans s2)⟩
theorem pb_or (ha : PB X sl a fa) (hb : PBw X sl (.BoolOp .Or (b :: rest) pos) fb) : PBw X sl (.BoolOp .Or (a :: b :: rest) pos) (fun s => (fa s).bind fun x => if x = true then some true else fb s) :=
  PW.imp (pw_or ha hb) fun σ H Q ⟨γ, S0, S, t, E, hf, q⟩ => by
    obtain ⟨x, h1, h2⟩ := bind1 hf
    refine ⟨γ, S0, S, x, E, h1, fun H1 s1 => ?_⟩
    cases x with
    | true => cases h2; exact q H1 s1
    | false => exact ⟨γ, S0, S, t, E.same s1, h2, fun H2 s2 => q H2 (s1.trans s2)⟩
theorem PBw.pb {f : Γ → Option Bool} (h : PBw X sl e f) : PB X sl e f := PW.pt h
theorem pv_one {op} (ha : PV X sl .a a fa) : PV X sl .a (.BoolOp op [a] pos) fa := pe_one ha
theorem pv_and (ha : PV X sl .a a fa) (hb : PV X sl .a (.BoolOp .And (b :: rest) pos) fb) : PV X sl .a (.BoolOp .And (a :: b :: rest) pos) (fun s => (fa s).bind fun x => if x = true then fb s else some false) :=
  PE.imp (pe_and ha hb) fun σ H Q ⟨γ, S0, S, t, E, hf, q⟩ => by
    obtain ⟨x, h1, h2⟩ := bind1 hf
    refine ⟨γ, S0, S, x, E, h1, fun v H1 s1 r1 => ⟨x, r1, ?_⟩⟩
    cases x with
    | false => cases h2; exact q _ H1 s1 rfl
    | true => exact ⟨γ, S0, S, t, E.same s1, h2, fun v H2 s2 r2 => q v H2 (s1.trans s2) r2⟩
theorem pv_or (ha : PV X sl .a a fa) (hb : PV X sl .a (.BoolOp .Or (b :: rest) pos) fb) : PV X sl .a (.BoolOp .Or (a :: b :: rest) pos) (fun s => (fa s).bind fun x => if x = true then some true else fb s) :=
  PE.imp (pe_or ha hb) fun σ H Q ⟨γ, S0, S, t, E, hf, q⟩ => by
    obtain ⟨x, h1, h2⟩ := bind1 hf
    refine ⟨γ, S0, S, x, E, h1, fun v H1 s1 r1 => ⟨x, r1, ?_⟩⟩
    cases x with
    | true => cases h2; exact q _ H1 s1 rfl
    | false => exact ⟨γ, S0, S, t, E.same s1, h2, fun v H2 s2 r2 => q v H2 (s1.trans s2) r2⟩
theorem pv_not (ha : PV X sl .a a fa) : PV X sl .a (.UnaryOp .Not a pos) (fun s => (fa s).bind fun x => some (!x)) := PE.imp (pe_not ha) fun σ H Q ⟨γ, S0, S, t, E, hf, q⟩ => by
  obtain ⟨x, h1, h2⟩ := bind1 hf
  cases h2
  exact ⟨γ, S0, S, x, E, h1, fun v H' s r => ⟨x, r, q _ H' s rfl⟩⟩
theorem pv_if [Enc τ] {fc : Γ → Option Bool} {f g : Γ → Option τ} (hc : PB X sl c fc) (ha : PV X sl k a f) (hb : PV X sl k b g) : PV X sl k (.IfExp c a b pos) (fun s => (fc s).bind fun x => if x = true then f s else g s) :=
  PE.imp (pe_ifExp hc ha hb) fun σ H Q ⟨γ, S0, S, t, E, hf, q⟩ => by
    obtain ⟨x, h1, h2⟩ := bind1 hf
    refine ⟨γ, S0, S, x, E, h1, fun H1 s1 => ?_⟩
    cases x with
    | true => exact ⟨γ, S0, S, t, E.same s1, h2, fun v H2 s2 r2 => q v H2 (s1.trans s2) (r2.back s1)⟩
    | false => exact ⟨γ, S0, S, t, E.same s1, h2, fun v H2 s2 r2 => q v H2 (s1.trans s2) (r2.back s1)⟩
end

/-! ### == of scalars, of data -/
class Sc (τ : Type) [Enc τ] where
  val : τ → V
  rp : ∀ {K : PySem.W.Frag} {H : Hp} {T : Ad} {t : τ} {v : V}, Rb K H T (enc t) v → v = val t
  sc : ∀ s t : τ, scal (val s) (val t) = true
  inj : ∀ s t : τ, val s = val t → s = t
instance : Sc Int := ⟨V.int, fun h => rb_int h, fun _ _ => rfl, fun _ _ e => V.int.inj e⟩
instance : Sc Bool := ⟨V.bl, fun h => rb_bool h, fun _ _ => rfl, fun _ _ e => V.bl.inj e⟩
instance : Sc Tx := ⟨fun t => V.str ⟨t.cs.toArray⟩, fun h => rb_str h, fun _ _ => rfl, fun s t e => by
  have e1 := V.str.inj e
  have e2 : s.cs.toArray = t.cs.toArray := congrArg Str.cps e1
  have e3 : s.cs = t.cs := by simpa using e2
  cases s; cases t; exact congrArg Tx.mk e3⟩
theorem sc_dec [Enc τ] [Sc τ] [DecidableEq τ] (s t : τ) : decide (Sc.val s = Sc.val t) = decide (s = t) := by
  by_cases h : s = t
  · subst h; simp
  · rw [decide_eq_false h, decide_eq_false fun q => h (Sc.inj s t q)]
def c_eqS [Enc τ] [Sc τ] [DecidableEq τ] : Cmp X .Eq τ τ (fun x y => some (decide (x = y))) := ⟨_, op_eq, fun T H x y u w t Q hT r1 r2 e q => by
  cases e
  rw [Sc.rp r1, Sc.rp r2]
  exact ⟨Sc.sc u w, q _ H (Same.refl H) (by rw [sc_dec]; rfl)⟩⟩
def c_neS [Enc τ] [Sc τ] [DecidableEq τ] : Cmp X .NotEq τ τ (fun x y => some (!decide (x = y))) := ⟨_, op_ne, fun T H x y u w t Q hT r1 r2 e q => by
  cases e
  rw [Sc.rp r1, Sc.rp r2]
  exact ⟨Sc.sc u w, q _ H (Same.refl H) (by rw [sc_dec]; rfl)⟩⟩
/-- what is never None -/
class NN (τ : Type) [Enc τ] : Prop where
  nn : ∀ t : τ, enc t ≠ .none
instance : NN Int := ⟨nofun⟩
instance : NN Bool := ⟨nofun⟩
instance : NN Tx := ⟨nofun⟩
instance [Enc α] : NN (List α) := ⟨nofun⟩
instance [Enc α] [Enc β] : NN (T2 α β) := ⟨nofun⟩
instance [Enc α] [Enc β] [Enc γ'] : NN (T3 α β γ') := ⟨nofun⟩
instance [Enc α] [Enc β] [Enc γ'] [Enc τ] : NN (T4 α β γ' τ) := ⟨nofun⟩
/-- data that == compares -/
class EqT (τ : Type) [Enc τ] [DecidableEq τ] where
  ok : τ → Bool
  dep : Nat
  dle : ∀ t : τ, (enc t).depth ≤ dep
  can : ∀ t : τ, ok t = true → (enc t).canLay0 = true
  eqv : ∀ s t : τ, PyData.eqv (enc s) (enc t) = decide (s = t)
instance : EqT Int := ⟨fun _ => true, 0, fun _ => Nat.le_refl _, fun _ _ => rfl, fun s t => by show PyData.eqv (.int s) (.int t) = _; unfold PyData.eqv; exact Bool.beq_eq_decide_eq s t⟩
instance : EqT Bool := ⟨fun _ => true, 0, fun _ => Nat.le_refl _, fun _ _ => rfl, fun s t => by show PyData.eqv (.bool s) (.bool t) = _; unfold PyData.eqv; exact Bool.beq_eq_decide_eq s t⟩
instance : EqT Tx := ⟨fun t => PyData.strOk ⟨t.cs.toArray⟩, 0, fun _ => Nat.le_refl _, fun _ h => h, fun s t => by
  show PyData.eqv (.str _) (.str _) = _
  unfold PyData.eqv
  rw [Bool.beq_eq_decide_eq]
  by_cases h : s = t
  · subst h; simp
  · rw [decide_eq_false h, decide_eq_false]
    intro q
    apply h
    have e2 : s.cs.toArray = t.cs.toArray := congrArg Str.cps q
    cases s; cases t
    simpa using e2⟩
theorem depthAll_le {n : Nat} : ∀ {ds : List PyData}, (∀ d ∈ ds, d.depth ≤ n) → PyData.depthAll ds ≤ n
  | [], _ => by unfold PyData.depthAll; exact Nat.zero_le _
  | d :: ds, h => by
    unfold PyData.depthAll
    exact Nat.max_le.mpr ⟨h d List.mem_cons_self, depthAll_le fun x hx => h x (List.mem_cons_of_mem _ hx)⟩
theorem canAll_of : ∀ {ds : List PyData}, (∀ d ∈ ds, d.canLay0 = true) → PyData.canLayAll0 ds = true
  | [], _ => rfl
  | d :: ds, h => by
    unfold PyData.canLayAll0
    rw [h d List.mem_cons_self, canAll_of fun x hx => h x (List.mem_cons_of_mem _ hx)]
    rfl
section
variable [Enc α] [DecidableEq α] [EqT α] [Enc β] [DecidableEq β] [EqT β] [Enc γ'] [DecidableEq γ'] [EqT γ']
theorem eqvAll_of : ∀ xs ys : List α, PyData.eqvAll (xs.map enc) (ys.map enc) = decide (xs = ys)
  | [], [] => by simp [PyData.eqvAll]
  | [], _ :: _ => by simp [PyData.eqvAll]
  | _ :: _, [] => by simp [PyData.eqvAll]
  | x :: xs, y :: ys => by
    rw [List.map_cons, List.map_cons, PyData.eqvAll, EqT.eqv, eqvAll_of xs ys]
    simp
instance : EqT (List α) := ⟨fun t => t.all EqT.ok, EqT.dep α + 1, fun t => by
  show PyData.depth (.list (t.map enc)) ≤ _
  unfold PyData.depth
  refine Nat.succ_le_succ (depthAll_le fun d hd => ?_)
  obtain ⟨x, _, rfl⟩ := List.mem_map.mp hd
  exact EqT.dle x, fun t h => by
  show PyData.canLay0 (.list (t.map enc)) = true
  unfold PyData.canLay0
  refine canAll_of fun d hd => ?_
  obtain ⟨x, hx, rfl⟩ := List.mem_map.mp hd
  exact EqT.can x (List.all_eq_true.mp h x hx), fun s t => by
  show PyData.eqv (.list (s.map enc)) (.list (t.map enc)) = _
  unfold PyData.eqv
  exact eqvAll_of s t⟩
theorem eqv_none {d : PyData} (h : d ≠ .none) : PyData.eqv .none d = false ∧ PyData.eqv d .none = false := by
  cases d with
  | none => exact absurd rfl h
  | bool _ => simp [PyData.eqv]
  | int _ => simp [PyData.eqv]
  | str _ => simp [PyData.eqv]
  | list _ => simp [PyData.eqv]
  | tuple _ => simp [PyData.eqv]
  | dict _ => simp [PyData.eqv]
instance [NN α] : EqT (Option α) := ⟨fun t => match t with | none => true | some t => EqT.ok t, EqT.dep α, fun t => match t with
  | none => Nat.zero_le _
  | some t => EqT.dle t, fun t h => match t, h with
  | none, _ => rfl
  | some t, h => EqT.can t h, fun s t => match s, t with
  | none, none => by simp; rfl
  | none, some t => by simp; exact (eqv_none (NN.nn t)).1
  | some s, none => by simp; exact (eqv_none (NN.nn s)).2
  | some s, some t => by
    have e := EqT.eqv s t
    by_cases h : s = t
    · subst h; simp at e ⊢; exact e
    · simp [h] at e ⊢; exact e⟩
instance : EqT (T2 α β) := ⟨fun t => EqT.ok t.a && EqT.ok t.b, max (EqT.dep α) (EqT.dep β) + 1, fun t => by
  show PyData.depth (.tuple [enc t.a, enc t.b]) ≤ _
  have h1 := EqT.dle t.a
  have h2 := EqT.dle t.b
  simp only [PyData.depth, PyData.depthAll]
  omega, fun t h => by
  show PyData.canLay0 (.tuple [enc t.a, enc t.b]) = true
  simp only [Bool.and_eq_true] at h
  simp [PyData.canLay0, PyData.canLayAll0, EqT.can t.a h.1, EqT.can t.b h.2], fun s t => by
  show PyData.eqv (.tuple [enc s.a, enc s.b]) (.tuple [enc t.a, enc t.b]) = _
  simp only [PyData.eqv, PyData.eqvAll, EqT.eqv]
  cases s; cases t; simp⟩
instance : EqT (T3 α β γ') := ⟨fun t => EqT.ok t.a && (EqT.ok t.b && EqT.ok t.c), max (EqT.dep α) (max (EqT.dep β) (EqT.dep γ')) + 1, fun t => by
  show PyData.depth (.tuple [enc t.a, enc t.b, enc t.c]) ≤ _
  have h1 := EqT.dle t.a
  have h2 := EqT.dle t.b
  have h3 := EqT.dle t.c
  simp only [PyData.depth, PyData.depthAll]
  omega, fun t h => by
  show PyData.canLay0 (.tuple [enc t.a, enc t.b, enc t.c]) = true
  simp only [Bool.and_eq_true] at h
  simp [PyData.canLay0, PyData.canLayAll0, EqT.can t.a h.1, EqT.can t.b h.2.1, EqT.can t.c h.2.2], fun s t => by
  show PyData.eqv (.tuple [enc s.a, enc s.b, enc s.c]) (.tuple [enc t.a, enc t.b, enc t.c]) = _
  simp only [PyData.eqv, PyData.eqvAll, EqT.eqv]
  cases s; cases t; simp⟩
end
instance [Enc α] [DecidableEq α] [EqT α] [Enc β] [DecidableEq β] [EqT β] [Enc γ'] [DecidableEq γ'] [EqT γ'] [Enc τ] [DecidableEq τ] [EqT τ] : EqT (T4 α β γ' τ) := ⟨fun t => EqT.ok t.a && (EqT.ok t.b && (EqT.ok t.c && EqT.ok t.d)), max (EqT.dep α) (max (EqT.dep β) (max (EqT.dep γ') (EqT.dep τ))) + 1, fun t => by
  show PyData.depth (.tuple [enc t.a, enc t.b, enc t.c, enc t.d]) ≤ _
  have h1 := EqT.dle t.a
  have h2 := EqT.dle t.b
  have h3 := EqT.dle t.c
  have h4 := EqT.dle t.d
  simp only [PyData.depth, PyData.depthAll]
  omega, fun t h => by
  show PyData.canLay0 (.tuple [enc t.a, enc t.b, enc t.c, enc t.d]) = true
  simp only [Bool.and_eq_true] at h
  simp [PyData.canLay0, PyData.canLayAll0, EqT.can t.a h.1, EqT.can t.b h.2.1, EqT.can t.c h.2.2.1, EqT.can t.d h.2.2.2], fun s t => by
  show PyData.eqv (.tuple [enc s.a, enc s.b, enc s.c, enc s.d]) (.tuple [enc t.a, enc t.b, enc t.c, enc t.d]) = _
  simp only [PyData.eqv, PyData.eqvAll, EqT.eqv]
  cases s; cases t; simp⟩

theorem Rb.dp {K : PySem.W.Frag} {H : Hp} {T : Ad} {d : PyData} {v : V} (h : Rb K H T d v) (n : PyData.hasDict d = false) : Dp K H v d := by
  rcases h with h | ⟨ds, a, xs, rfl, rfl, h1, h2⟩ | ⟨kvs, _, _, rfl, _⟩
  · exact Rp.dp d v h (by rintro kvs rfl; simp [PyData.hasDict] at n) n
  · exact .lst (.inl h1) (RpA.dp ds xs h2 (by simpa [PyData.hasDict] using n))
  · simp [PyData.hasDict] at n
section
variable [Enc τ] [DecidableEq τ] [EqT τ]
theorem shaped_of {t : τ} (h : EqT.ok t = true) (hd : EqT.dep τ ≤ 64) : SeqAt.shaped (enc t) = true := by
  unfold SeqAt.shaped
  rw [EqT.can t h, decide_eq_true (Nat.le_trans (EqT.dle t) hd)]
  rfl
def dEq (x y : τ) : Option Bool := if EqT.ok x = true ∧ EqT.ok y = true then some (decide (x = y)) else none
def dNe (x y : τ) : Option Bool := if EqT.ok x = true ∧ EqT.ok y = true then some (!decide (x = y)) else none
def c_eqD (hu : X.A.units + 64 < cLine) (hd : EqT.dep τ ≤ 64 := by decide) : Cmp X .Eq τ τ (fun x y => dEq x y) := ⟨_, op_eqD hu, fun T H x y u w t Q hT r1 r2 e q => by
  obtain ⟨⟨h1, h2⟩, rfl⟩ := if_some e
  refine ⟨enc u, enc w, r1.dp (PyData.hasDict_of_canLay _ (EqT.can u h1)), r2.dp (PyData.hasDict_of_canLay _ (EqT.can w h2)), shaped_of h1 hd, shaped_of h2 hd, q _ H (Same.refl H) ?_⟩
  rw [EqT.eqv]; rfl⟩
def c_neD (hu : X.A.units + 64 < cLine) (hd : EqT.dep τ ≤ 64 := by decide) : Cmp X .NotEq τ τ (fun x y => dNe x y) := ⟨_, op_neD hu, fun T H x y u w t Q hT r1 r2 e q => by
  obtain ⟨⟨h1, h2⟩, rfl⟩ := if_some e
  refine ⟨enc u, enc w, r1.dp (PyData.hasDict_of_canLay _ (EqT.can u h1)), r2.dp (PyData.hasDict_of_canLay _ (EqT.can w h2)), shaped_of h1 hd, shaped_of h2 hd, q _ H (Same.refl H) ?_⟩
  rw [EqT.eqv]; rfl⟩
end
/-! ### is None -/
theorem rb_non {K : PySem.W.Frag} {H : Hp} {T : Ad} {d : PyData} (h : Rb K H T d .non) : d = .none := by
  rcases h with h | ⟨_, _, _, _, e, _⟩ | ⟨_, _, _, _, e, _⟩
  · cases d with
    | none => rfl
    | bool b => cases (show V.non = .bl b from h)
    | int b => cases (show V.non = .int b from h)
    | str b => cases (show V.non = .str b from h)
    | list b => obtain ⟨_, _, e, _⟩ := h; cases e
    | tuple b => obtain ⟨_, _, e, _⟩ := h; cases e
    | dict b => obtain ⟨_, _, e, _⟩ := h; cases e
  · cases e
  · cases e
section
variable [Enc τ] [NN τ] {f : Γ → Option (Option τ)}
theorem isN_dec {K : PySem.W.Frag} {H : Hp} {T : Ad} {t : Option τ} {v : V} (h : Rb K H T (enc t) v) : decide (v = .non) = t.isNone := by
  cases t with
  | none => rw [rb_none h]; rfl
  | some t =>
    refine decide_eq_false fun e => ?_
    subst e
    exact NN.nn t (rb_non h)
def c_is : Cmp X .Is (Option τ) Unit (fun x _ => some x.isNone) := ⟨_, op_isN, fun T H x y u w t Q hT r1 r2 e q => by
  cases e
  exact ⟨rb_none r2, q _ H (Same.refl H) (by rw [isN_dec r1]; rfl)⟩⟩
def c_isnt : Cmp X .IsNot (Option τ) Unit (fun x _ => some (!x.isNone)) := ⟨_, op_notN, fun T H x y u w t Q hT r1 r2 e q => by
  cases e
  exact ⟨rb_none r2, q _ H (Same.refl H) (by rw [isN_dec r1]; rfl)⟩⟩
end
end PL

/-! PL4: lists, tuples, texts, known functions. -/
namespace PL
open PySem PySem.Spec L2
open Enc (enc)

variable {Γ Γ' ρ τ α β γ' δ : Type} {X : Cx} {sl : Γ → Sl} {e a b c : Expr} {k k1 k2 k3 : Kd} {pos : Pos}

/-! ### what a value is, by its type -/
section
variable {K : PySem.W.Frag} {H : Hp} {T : Ad} {v : V}
theorem rb_l [Enc τ] {t : List τ} (h : Rb K H T (enc t) v) : ∃ a xs, v = .ref a ∧ SqL K H a xs ∧ RpA K H T (t.map enc) xs := rb_list h
theorem rb_i {t : Int} (h : Rb K H T (enc t) v) : v = .int t := rb_int h
theorem rb_t {t : Tx} (h : Rb K H T (enc t) v) : v = .str ⟨t.cs.toArray⟩ := rb_str h
/-- a new list -/
theorem fr_new [Enc τ] {t : List τ} {p : Addr} {xs : List V} (hT : ∀ a, T a → H a ≠ none) (hp : H p = none) (h : RpA K H T (t.map enc) xs) : RK .f K H (upd H p (.lst xs)) T (enc t) (.ref p) := by
  refine ⟨p, rfl, hp, .inl ⟨_, xs, rfl, upd_same, h.mv fun a o e n => ?_⟩⟩
  have ne := ne_of_none e hp
  exact ⟨by rw [upd_ne ne]; exact e, fun z => z.elim n ne⟩
theorem same_new {p : Addr} {o : HO} (h : H p = none) : Same H (upd H p o) := fun b x e => by
  rw [upd_ne (ne_of_none e h)]
  exact e
theorem rp_newT {ds : List PyData} {p : Addr} {xs : List V} (hT : ∀ a, T a → H a ≠ none) (hp : H p = none) (h : RpA K H T ds xs) : Rp K (upd H p (.tup xs)) T (.tuple ds) (.ref p) :=
  ⟨p, xs, rfl, .inl ⟨.inl upd_same, fun z => hT p z hp⟩, h.mv (.same (same_new hp))⟩
theorem map_len [Enc τ] {t : List τ} {xs : List V} (h : RpA K H T (t.map enc) xs) : xs.length = t.length := by rw [h.length, List.length_map]
theorem map_get [Enc τ] {t : List τ} {xs : List V} {i : Nat} {d : τ} (h : RpA K H T (t.map enc) xs) (e : t[i]? = some d) : ∃ v, xs[i]? = some v ∧ Rp K H T (enc d) v :=
  h.get (by rw [List.getElem?_map, e]; rfl)
theorem rpa_at {ds : List PyData} {xs : List V} {i : Int} {d : PyData} (h : RpA K H T ds xs) (e : atI ds i = some d) : ∃ v, atI xs i = some v ∧ Rp K H T d v := by
  unfold atI at e ⊢
  rw [h.length]
  obtain ⟨j, h1, h2⟩ := bind1 e
  obtain ⟨v, h3, h4⟩ := h.get h2
  exact ⟨v, by rw [h1]; exact h3, h4⟩
theorem map_at [Enc τ] {t : List τ} {xs : List V} {i : Int} {d : τ} (h : RpA K H T (t.map enc) xs) (e : atI t i = some d) : ∃ v, atI xs i = some v ∧ Rp K H T (enc d) v := by
  unfold atI at e ⊢
  rw [map_len h]
  obtain ⟨j, h1, h2⟩ := bind1 e
  obtain ⟨v, h3, h4⟩ := map_get h h2
  exact ⟨v, by rw [h1]; exact h3, h4⟩
end

/-! ### subscripts -/
theorem pv_ix [Enc τ] {fa : Γ → Option (List τ)} {fb : Γ → Option Int} (ha : PV X sl .b a fa) (hb : PV X sl .b b fb) (hx : PlainIx b := by exact fun _ _ => rfl) : PV X sl .a (.Subscript a b pos) (fun s => (fa s).bind fun x => (fb s).bind fun i => atI x i) :=
  pv_2 (fun h1 h2 => pe_ix ix_list h1 h2 hx) (fun T H x y u w t Q hT r1 r2 e q => by
    obtain ⟨p, xs, rfl, h1, h2⟩ := rb_l r1
    obtain ⟨v, h3, h4⟩ := map_at h2 e
    exact ⟨p, xs, w, v, rfl, rb_i r2, h1, h3, q v H (Same.refl H) h4⟩) ha hb
/-- t[j] of a tuple -/
theorem pv_ixT [Enc τ] [Enc β] {fa : Γ → Option τ} {i : Int} {j0 : Nat} {p0 : Pos} (ds : τ → List PyData) (p : τ → β) (hd : ∀ t, enc t = .tuple (ds t)) (hi : ∀ t, atI (ds t) i = some (enc (p t))) (ha : PV X sl .b a fa) :
    PV X sl .a (.Subscript a (.Constant (.int i) j0 p0) pos) (fun s => (fa s).bind fun x => some (p x)) := by
  refine PV.eq (f := fun s => (fa s).bind fun x => (some i : Option Int).bind fun w => if w = i then some (p x) else none) ?_ (by funext s; cases fa s <;> simp)
  exact pv_2 (fb := fun _ => some i) (g := fun x w => if w = i then some (p x) else none) (fun h1 h2 => pe_ix ix_tup h1 h2 (fun _ _ => rfl)) (fun T H x y u w t Q hT r1 r2 e q => by
    obtain ⟨rfl, rfl⟩ := if_some e
    rw [hd u] at r1
    obtain ⟨a, xs, rfl, h1, h2⟩ := rb_tup r1
    obtain ⟨v, h3, h4⟩ := rpa_at h2 (hi u)
    exact ⟨a, xs, w, v, rfl, rb_i r2, h1, h3, q v H (Same.refl H) h4⟩) ha pv_int.ab
def sIx (t : Tx) (i : Int) : Option Tx := if t.cs.length ≤ sizeLine then (atI t.cs i).map fun c => ⟨[c]⟩ else none
theorem pv_ixS {fa : Γ → Option Tx} {fb : Γ → Option Int} (ha : PV X sl .b a fa) (hb : PV X sl .b b fb) (hx : PlainIx b := by exact fun _ _ => rfl) : PV X sl .a (.Subscript a b pos) (fun s => (fa s).bind fun x => (fb s).bind fun i => sIx x i) :=
  pv_2 (fun h1 h2 => pe_ix ix_str h1 h2 hx) (fun T H x y u w t Q hT r1 r2 e q => by
    unfold sIx at e
    by_cases hz : u.cs.length ≤ sizeLine
    · rw [if_pos hz] at e
      cases h : atI u.cs w with
      | none => rw [h] at e; cases e
      | some c =>
        rw [h] at e
        cases e
        exact ⟨_, w, c, rb_t r1, rb_i r2, hz, h, q _ H (Same.refl H) rfl⟩
    · rw [if_neg hz] at e; cases e) ha hb

/-! ### slices -/
def cut (xs : List τ) (lo hi : Option Int) : List τ := (xs.drop (HT.sIx xs.length 0 lo)).take (HT.sIx xs.length xs.length hi - HT.sIx xs.length 0 lo)
def tOo (K : PySem.W.Frag) (sl : Γ → Sl) (f : Γ → Option (Option Int)) : TO := fun σ H Q =>
  ∃ (g : Γ) (S0 S : Ad) (t : Option Int), EnvS K S0 S H (sl g) σ ∧ f g = some t ∧ ∀ H', Same H H' → Q t H'
def PVo (X : Cx) (sl : Γ → Sl) (e : Option Expr) (f : Γ → Option (Option Int)) : Prop := PO X e (tOo X.K sl f)
theorem pvo_none : PVo X sl none (fun _ => some none) := PO.imp po_none fun σ H Q ⟨g, S0, S, t, E, hf, q⟩ => by
  cases hf
  exact q H (Same.refl H)
theorem pvo_some {f : Γ → Option Int} (h : PV X sl .b e f) : PVo X sl (some e) (fun s => (f s).bind fun i => some (some i)) := PO.imp (po_some h) fun σ H Q ⟨g, S0, S, t, E, hf, q⟩ => by
  obtain ⟨i, h1, h2⟩ := bind1 hf
  cases h2
  exact ⟨g, S0, S, i, E, h1, fun v H' s r => ⟨i, rb_i r, q H' s⟩⟩
theorem cut_rp [Enc τ] {K : PySem.W.Frag} {H : Hp} {T : Ad} {t : List τ} {xs : List V} {lo hi : Option Int} (h : RpA K H T (t.map enc) xs) : RpA K H T ((cut t lo hi).map enc) (cutV xs lo hi) := by
  unfold cut cutV
  rw [map_len h, List.map_take, List.map_drop]
  exact RpA.take _ (RpA.drop _ h)
section
variable {lo hi : Option Expr} {fl fh : Γ → Option (Option Int)} {p2 : Pos}
theorem pv_sl [Enc τ] {fa : Γ → Option (List τ)} (ha : PV X sl .b a fa) (hl : PVo X sl lo fl) (hh : PVo X sl hi fh) : PV X sl .f (.Subscript a (.Slice lo hi none p2) pos) (fun s => (fa s).bind fun x => (fl s).bind fun i => (fh s).bind fun j => some (cut x i j)) :=
  PE.imp (pe_slice sl_list ha hl hh) fun σ H Q ⟨g, S0, S, t, E, hf, q⟩ => by
    obtain ⟨x, i, h1, h2, h3⟩ := bind2 hf
    obtain ⟨j, h4, h5⟩ := bind1 h3
    cases h5
    refine ⟨g, S0, S, x, E, h1, fun v H1 s1 r1 => ⟨g, S0, S, i, E.same s1, h2, fun H2 s2 => ⟨g, S0, S, j, (E.same s1).same s2, h4, fun H3 s3 => ?_⟩⟩⟩
    have s23 := s2.trans s3
    obtain ⟨p, xs, rfl, h6, h7⟩ := rb_l (Rb.mv (.same s23) r1 s23)
    have s13 := s1.trans s23
    refine ⟨p, xs, rfl, h6, fun r hr => ?_⟩
    exact q _ _ (s13.trans (same_new hr)) ((fr_new (E.same s13).dT hr (cut_rp h7)).back s13)
def cutT (t : Tx) (lo hi : Option Int) : Option Tx := if t.cs.length ≤ sizeLine then some ⟨cut t.cs lo hi⟩ else none
theorem pv_slS {fa : Γ → Option Tx} (ha : PV X sl .b a fa) (hl : PVo X sl lo fl) (hh : PVo X sl hi fh) : PV X sl .a (.Subscript a (.Slice lo hi none p2) pos) (fun s => (fa s).bind fun x => (fl s).bind fun i => (fh s).bind fun j => cutT x i j) :=
  PE.imp (pe_slice sl_str ha hl hh) fun σ H Q ⟨g, S0, S, t, E, hf, q⟩ => by
    obtain ⟨x, i, h1, h2, h3⟩ := bind2 hf
    obtain ⟨j, h4, h5⟩ := bind1 h3
    obtain ⟨hz, rfl⟩ := if_some h5
    refine ⟨g, S0, S, x, E, h1, fun v H1 s1 r1 => ⟨g, S0, S, i, E.same s1, h2, fun H2 s2 => ⟨g, S0, S, j, (E.same s1).same s2, h4, fun H3 s3 => ?_⟩⟩⟩
    exact ⟨_, rb_t r1, hz, q _ _ (s1.trans (s2.trans s3)) rfl⟩
theorem pv_rev [Enc τ] {fa : Γ → Option (List τ)} {k0 : Nat} {p1 p2 p3 : Pos} (ha : PV X sl .b a fa) : PV X sl .f (.Subscript a (.Slice none none (some (.UnaryOp .USub (.Constant (.int 1) k0 p1) p2)) p3) pos) (fun s => (fa s).bind fun x => some x.reverse) :=
  PE.imp (pe_revL ha) fun σ H Q ⟨g, S0, S, t, E, hf, q⟩ => by
    obtain ⟨x, h1, h2⟩ := bind1 hf
    cases h2
    refine ⟨g, S0, S, x, E, h1, fun v H1 s1 r1 => ?_⟩
    obtain ⟨p, xs, rfl, h6, h7⟩ := rb_l r1
    refine ⟨p, xs, rfl, h6, fun r hr => ?_⟩
    exact q _ _ (s1.trans (same_new hr)) ((fr_new (E.same s1).dT hr (by rw [List.map_reverse]; exact h7.rev)).back s1)
end

/-! ### list + list, text + text -/
def rCatQ (K : PySem.W.Frag) : R2 := fun x y H Q => ∃ l b xs zs, x = .ref l ∧ y = .ref b ∧ SqL K H l xs ∧ SqL K H b zs ∧ xs.length + zs.length ≤ sizeLine ∧ ∀ p, H p = none → Q (.ref p) (upd H p (.lst (xs ++ zs)))
theorem op_catQ : OpR X (binaryOp .Add) (rCatQ X.K) := by
  intro pins s σ H x y v u Q I rx ry h
  obtain ⟨l, m, xs, zs, rfl, rfl, h1, h2, hz, q⟩ := h
  cases rx; cases ry
  obtain ⟨its, r, ⟨o, n, ho, hc, _, hd⟩, _⟩ := I.list h1
  obtain ⟨its2, r2, ⟨o2, n2, ho2, hc2, _, hd2⟩, _⟩ := I.list h2
  obtain ⟨c1, d1, t1, w1⟩ := o
  obtain ⟨c2, d2, t2, w2⟩ := o2
  simp only at hc hd hc2 hd2
  subst hc hd hc2 hd2
  have hs : its.toArray.size + its2.toArray.size ≤ sizeLine := by
    rw [List.size_toArray, List.size_toArray, ← r.length, ← r2.length]; exact hz
  have G := PyProof.Rows.list_addW l m its.toArray its2.toArray n n2 d1 d2 w1 w2 hs
  refine concat_meets ⟨_, ho, rfl⟩ ⟨_, ho2, rfl⟩ noFill_list_add seq_list_add PySem.F.slot_list_add PySem.F.entry_list_add (PySem.F.args_list_add_2 _ _) G ⟨ho, ho2, ?_⟩
  have ea : its.toArray ++ its2.toArray = (its ++ its2).toArray := by simp
  rw [ea]
  exact ⟨.ref _, _, I.lnew (t' := s.toks) (r.append r2) (by rw [List.length_append]; exact hz), rfl, q _ I.fresh⟩
def lCat (x y : List τ) : Option (List τ) := if x.length + y.length ≤ sizeLine then some (x ++ y) else none
theorem pv_cat [Enc τ] {fa fb : Γ → Option (List τ)} (ha : PV X sl .b a fa) (hb : PV X sl .b b fb) : PV X sl .f (.BinOp a .Add b pos) (fun s => (fa s).bind fun x => (fb s).bind fun y => lCat x y) :=
  pv_2 (pe_op op_catQ) (fun T H x y u w t Q hT r1 r2 e q => by
    obtain ⟨hz, rfl⟩ := if_some e
    obtain ⟨p, xs, rfl, h1, h2⟩ := rb_l r1
    obtain ⟨p', xs', rfl, h1', h2'⟩ := rb_l r2
    refine ⟨p, p', xs, xs', rfl, rfl, h1, h1', by rw [map_len h2, map_len h2']; exact hz, fun r hr => ?_⟩
    exact q _ _ (same_new hr) (fr_new hT hr (by rw [List.map_append]; exact h2.append h2'))) ha hb
def tCat (x y : Tx) : Option Tx := if x.cs.length + y.cs.length ≤ sizeLine then some ⟨x.cs ++ y.cs⟩ else none
theorem str_app (x y : List Nat) : ((⟨x.toArray⟩ : Str) ++ (⟨y.toArray⟩ : Str)) = ⟨(x ++ y).toArray⟩ := by
  show Str.mk _ = _
  congr 1
  simp
theorem pv_catS {fa fb : Γ → Option Tx} (ha : PV X sl .b a fa) (hb : PV X sl .b b fb) : PV X sl .a (.BinOp a .Add b pos) (fun s => (fa s).bind fun x => (fb s).bind fun y => tCat x y) :=
  pv_2 (pe_op op_add_str) (fun T H x y u w t Q hT r1 r2 e q => by
    obtain ⟨hz, rfl⟩ := if_some e
    exact ⟨_, _, rb_t r1, rb_t r2, hz, q _ H (Same.refl H) (by rw [str_app]; rfl)⟩) ha hb

/-! ### known functions -/
section
variable {x : Str} {p : Pos} {fa fb : Γ → Option Int}
theorem pv_len [Enc τ] {fa : Γ → Option (List τ)} (hg : Gl X "len") (hm : X.mg "len" = none) (ha : PV X sl .b a fa) (he : starEach [a] X.env = (false, eval a X.env) :: starEach [] X.env := by rfl) :
    PV X sl .a (.Call (.Name "len" p) [a] [] pos) (fun s => (fa s).bind fun x => some (x.length : Int)) :=
  pv_c1 (fun h => pe_callB call_len_seq hg hm PySem.boot_len (pa_cons h pa_nil he) (he := he)) (fun T H x u t Q hT r e q => by
    cases e
    obtain ⟨p, xs, rfl, h1, h2⟩ := rb_l r
    exact ⟨p, xs, rfl, .inl h1, q _ H (Same.refl H) (by rw [map_len h2]; rfl)⟩) ha
end
end PL

/-! PL5: displays, known functions. -/
namespace PL
open PySem PySem.Spec L2
open Enc (enc)

variable {Γ Γ' ρ τ α β γ' δ : Type} {X : Cx} {sl : Γ → Sl} {e a b c d : Expr} {es : List Expr} {k k1 k2 k3 : Kd} {pos : Pos}

/-! ### displays -/
def tAl [Enc τ] (K : PySem.W.Frag) (sl : Γ → Sl) (f : Γ → Option (List τ)) : TA := fun σ H Q =>
  ∃ (g : Γ) (S0 S : Ad) (t : List τ), EnvS K S0 S H (sl g) σ ∧ f g = some t ∧ ∀ vs H', Same H H' → RpA K H' (un S S0) (t.map enc) vs → Q vs H'
def PAl [Enc τ] (X : Cx) (sl : Γ → Sl) (n : Nat) (es : List Expr) (f : Γ → Option (List τ)) : Prop := PA X es (tAl X.K sl f) ∧ ∀ s t, f s = some t → t.length ≤ n
def PAs [Enc τ] (X : Cx) (sl : Γ → Sl) (es : List Expr) (f : Γ → Option (List τ)) : Prop := PA X es (tAl X.K sl f)
theorem pas_nil [Enc τ] : PAs X sl [] (fun _ => some ([] : List τ)) := PA.imp pa_nil fun σ H Q ⟨g, S0, S, t, E, hf, q⟩ => by
  cases hf
  exact q [] H (Same.refl H) rfl
theorem pas_cons [Enc τ] {f : Γ → Option τ} {g : Γ → Option (List τ)} (h : PV X sl .a e f) (hr : PAs X sl es g) (hs : starEach (e :: es) X.env = (false, eval e X.env) :: starEach es X.env := by rfl) :
    PAs X sl (e :: es) (fun s => (f s).bind fun x => (g s).bind fun r => some (x :: r)) := PA.imp (pa_cons h hr hs) fun σ H Q ⟨γ, S0, S, t, E, hf, q⟩ => by
  obtain ⟨x, r, h1, h2, h3⟩ := bind2 hf
  cases h3
  refine ⟨γ, S0, S, x, E, h1, fun v H1 s1 r1 => ⟨γ, S0, S, r, E.same s1, h2, fun vs H2 s2 r2 => ?_⟩⟩
  exact q _ H2 (s1.trans s2) ⟨v, vs, rfl, Rp.mv (.same s2) _ v r1, r2⟩
theorem pas_star [Enc τ] {f : Γ → Option (List τ)} {g : Γ → Option (List τ)} {p : Pos} (h : PV X sl .b e f) (hr : PAs X sl es g) (hs : starEach (.Starred e p :: es) X.env = (true, eval e X.env) :: starEach es X.env := by rfl) :
    PAs X sl (.Starred e p :: es) (fun s => (f s).bind fun x => (g s).bind fun r => some (x ++ r)) := PA.imp (StX.pa_star h hr hs) fun σ H Q ⟨γ, S0, S, t, E, hf, q⟩ => by
  obtain ⟨x, r, h1, h2, h3⟩ := bind2 hf
  cases h3
  refine ⟨γ, S0, S, x, E, h1, fun v H1 s1 r1 => ?_⟩
  obtain ⟨p, xs, rfl, h4, h5⟩ := rb_l r1
  refine ⟨p, xs, rfl, .inr h4, γ, S0, S, r, E.same s1, h2, fun vs H2 s2 r2 => ?_⟩
  exact q _ H2 (s1.trans s2) (by rw [List.map_append]; exact (h5.mv (.same s2)).append r2)
theorem pal_nil [Enc τ] : PAl X sl 0 [] (fun _ => some ([] : List τ)) := ⟨pas_nil, fun s t h => by cases h; exact Nat.le_refl _⟩
theorem pal_cons [Enc τ] {n : Nat} {f : Γ → Option τ} {g : Γ → Option (List τ)} (h : PV X sl .a e f) (hr : PAl X sl n es g) (hs : starEach (e :: es) X.env = (false, eval e X.env) :: starEach es X.env := by rfl) :
    PAl X sl (n + 1) (e :: es) (fun s => (f s).bind fun x => (g s).bind fun r => some (x :: r)) := ⟨pas_cons h hr.1 hs, fun s t hf => by
  obtain ⟨x, r, h1, h2, h3⟩ := bind2 hf
  cases h3
  exact Nat.succ_le_succ (hr.2 s r h2)⟩
def lNew (t : List τ) : Option (List τ) := if t.length ≤ sizeLine then some t else none
theorem pv_lstS [Enc τ] {f : Γ → Option (List τ)} (h : PAs X sl es f) : PV X sl .f (.List es pos) (fun s => (f s).bind fun x => lNew x) := PE.imp (pe_lst h) fun σ H Q ⟨γ, S0, S, t, E, hf, q⟩ => by
  obtain ⟨x, h1, h2⟩ := bind1 hf
  obtain ⟨hz, rfl⟩ := if_some h2
  refine ⟨γ, S0, S, x, E, h1, fun vs H1 s1 r1 => ⟨by rw [map_len r1]; exact hz, fun p hp => ?_⟩⟩
  exact q _ _ (s1.trans (same_new hp)) ((fr_new (E.same s1).dT hp r1).back s1)
theorem pv_lst [Enc τ] {n : Nat} {f : Γ → Option (List τ)} (h : PAl X sl n es f) (hn : n ≤ sizeLine := by decide) : PV X sl .f (.List es pos) f := PE.imp (pe_lst h.1) fun σ H Q ⟨γ, S0, S, t, E, hf, q⟩ => by
  refine ⟨γ, S0, S, t, E, hf, fun vs H1 s1 r1 => ⟨by rw [map_len r1]; exact Nat.le_trans (h.2 _ _ hf) hn, fun p hp => ?_⟩⟩
  exact q _ _ (s1.trans (same_new hp)) ((fr_new (E.same s1).dT hp r1).back s1)
section
variable [Enc α] [Enc β] [Enc γ'] [Enc δ] {fa : Γ → Option α} {fb : Γ → Option β} {fc : Γ → Option γ'} {fd : Γ → Option δ}
theorem pv_tup2 {x1} (ha : PV X sl .a a fa) (hb : PV X sl .a b fb) (h1 : starEach [a, b] X.env = (false, eval a X.env) :: starEach [b] X.env := by rfl) (h2 : starEach [b] X.env = (false, eval b X.env) :: starEach [] X.env := by rfl) :
    PV X sl .a (.Tuple [a, b] x1 pos) (fun s => (fa s).bind fun x => (fb s).bind fun y => some (T2.mk x y)) := PE.imp (pe_tup (pa_cons ha (pa_cons hb pa_nil h2) h1)) fun σ H Q ⟨γ, S0, S, t, E, hf, q⟩ => by
  obtain ⟨x, y, e1, e2, e3⟩ := bind2 hf
  cases e3
  refine ⟨γ, S0, S, x, E, e1, fun v H1 s1 r1 => ⟨γ, S0, S, y, E.same s1, e2, fun w H2 s2 r2 => ⟨by show 2 ≤ sizeLine; decide, fun p hp => ?_⟩⟩⟩
  have s12 := s1.trans s2
  exact q _ _ (s12.trans (same_new hp)) (rp_newT (E.same s12).dT hp ⟨v, [w], rfl, Rp.mv (.same s2) _ v r1, .one r2⟩)
theorem pv_tup3 {x1} (ha : PV X sl .a a fa) (hb : PV X sl .a b fb) (hc : PV X sl .a c fc) (h1 : starEach [a, b, c] X.env = (false, eval a X.env) :: starEach [b, c] X.env := by rfl) (h2 : starEach [b, c] X.env = (false, eval b X.env) :: starEach [c] X.env := by rfl) (h3 : starEach [c] X.env = (false, eval c X.env) :: starEach [] X.env := by rfl) :
    PV X sl .a (.Tuple [a, b, c] x1 pos) (fun s => (fa s).bind fun x => (fb s).bind fun y => (fc s).bind fun z => some (T3.mk x y z)) := PE.imp (pe_tup (pa_cons ha (pa_cons hb (pa_cons hc pa_nil h3) h2) h1)) fun σ H Q ⟨γ, S0, S, t, E, hf, q⟩ => by
  obtain ⟨x, y, e1, e2, e3⟩ := bind2 hf
  obtain ⟨z, e4, e5⟩ := bind1 e3
  cases e5
  refine ⟨γ, S0, S, x, E, e1, fun v H1 s1 r1 => ⟨γ, S0, S, y, E.same s1, e2, fun w H2 s2 r2 => ⟨γ, S0, S, z, (E.same s1).same s2, e4, fun u H3 s3 r3 => ⟨by show 3 ≤ sizeLine; decide, fun p hp => ?_⟩⟩⟩⟩
  have s23 := s2.trans s3
  have s13 := s1.trans s23
  exact q _ _ (s13.trans (same_new hp)) (rp_newT (E.same s13).dT hp ⟨v, [w, u], rfl, Rp.mv (.same s23) _ v r1, w, [u], rfl, Rp.mv (.same s3) _ w r2, .one r3⟩)
theorem pv_tup4 {x1} (ha : PV X sl .a a fa) (hb : PV X sl .a b fb) (hc : PV X sl .a c fc) (hd : PV X sl .a d fd) (h1 : starEach [a, b, c, d] X.env = (false, eval a X.env) :: starEach [b, c, d] X.env := by rfl) (h2 : starEach [b, c, d] X.env = (false, eval b X.env) :: starEach [c, d] X.env := by rfl) (h3 : starEach [c, d] X.env = (false, eval c X.env) :: starEach [d] X.env := by rfl) (h4 : starEach [d] X.env = (false, eval d X.env) :: starEach [] X.env := by rfl) :
    PV X sl .a (.Tuple [a, b, c, d] x1 pos) (fun s => (fa s).bind fun x => (fb s).bind fun y => (fc s).bind fun z => (fd s).bind fun w => some (T4.mk x y z w)) := PE.imp (pe_tup (pa_cons ha (pa_cons hb (pa_cons hc (pa_cons hd pa_nil h4) h3) h2) h1)) fun σ H Q ⟨γ, S0, S, t, E, hf, q⟩ => by
  obtain ⟨x, y, e1, e2, e3⟩ := bind2 hf
  obtain ⟨z, z', e4, e5, e6⟩ := bind2 e3
  cases e6
  refine ⟨γ, S0, S, x, E, e1, fun v H1 s1 r1 => ⟨γ, S0, S, y, E.same s1, e2, fun w H2 s2 r2 => ⟨γ, S0, S, z, (E.same s1).same s2, e4, fun u H3 s3 r3 => ⟨γ, S0, S, z', ((E.same s1).same s2).same s3, e5, fun u' H4 s4 r4 => ⟨by show 4 ≤ sizeLine; decide, fun p hp => ?_⟩⟩⟩⟩⟩
  have s34 := s3.trans s4
  have s24 := s2.trans s34
  have s14 := s1.trans s24
  exact q _ _ (s14.trans (same_new hp)) (rp_newT (E.same s14).dT hp ⟨v, [w, u, u'], rfl, Rp.mv (.same s24) _ v r1, w, [u, u'], rfl, Rp.mv (.same s34) _ w r2, u, [u'], rfl, Rp.mv (.same s4) _ u r3, .one r4⟩)
end

/-! ### in -/
section
variable [Enc τ] [DecidableEq τ] [EqT τ]
def dIn (x : τ) (ys : List τ) : Option Bool := if EqT.ok x = true ∧ EqT.ok ys = true then some (decide (x ∈ ys)) else none
def dNin (x : τ) (ys : List τ) : Option Bool := if EqT.ok x = true ∧ EqT.ok ys = true then some (!decide (x ∈ ys)) else none
theorem any_in (x : τ) : ∀ ys : List τ, ((ys.map enc).any fun z => PyData.eqv z (enc x)) = decide (x ∈ ys)
  | [] => by simp
  | y :: ys => by
    rw [List.map_cons, List.any_cons, EqT.eqv, any_in x ys]
    by_cases h : x = y
    · subst h; simp
    · simp [h, Ne.symm h]
theorem dp_list {K : PySem.W.Frag} {H : Hp} {T : Ad} {t : List τ} {v : V} (h : Rb K H T (enc t) v) (ho : EqT.ok t = true) : Dp K H v (.list (t.map enc)) := h.dp (PyData.hasDict_of_canLay _ (EqT.can t ho))
def c_in (hu : X.A.units + 65 < cLine) (hd : EqT.dep τ + 1 ≤ 64 := by decide) : Cmp X .In τ (List τ) (fun x y => dIn x y) := ⟨_, op_inD hu, fun T H x y u w t Q hT r1 r2 e q => by
  obtain ⟨⟨h1, h2⟩, rfl⟩ := if_some e
  refine ⟨enc u, w.map enc, r1.dp (PyData.hasDict_of_canLay _ (EqT.can u h1)), dp_list r2 h2, shaped_of h1 (by omega), shaped_of (τ := List τ) h2 hd, q _ H (Same.refl H) ?_⟩
  rw [any_in]; rfl⟩
def c_nin (hu : X.A.units + 65 < cLine) (hd : EqT.dep τ + 1 ≤ 64 := by decide) : Cmp X .NotIn τ (List τ) (fun x y => dNin x y) := ⟨_, op_notInD hu, fun T H x y u w t Q hT r1 r2 e q => by
  obtain ⟨⟨h1, h2⟩, rfl⟩ := if_some e
  refine ⟨enc u, w.map enc, r1.dp (PyData.hasDict_of_canLay _ (EqT.can u h1)), dp_list r2 h2, shaped_of h1 (by omega), shaped_of (τ := List τ) h2 hd, q _ H (Same.refl H) ?_⟩
  rw [any_in]; rfl⟩
end

theorem rpa_ints {K : PySem.W.Frag} {H : Hp} {T : Ad} : ∀ xs : List Int, RpA K H T (xs.map enc) (xs.map V.int)
  | [] => rfl
  | x :: xs => ⟨.int x, _, rfl, rfl, rpa_ints xs⟩
/-! ### known functions of ints -/
section
variable {p : Pos} {fa fb : Γ → Option Int}
theorem star1 (h : starEach [a] X.env = [(false, eval a X.env)]) : starEach [a] X.env = (false, eval a X.env) :: starEach [] X.env := h
theorem pv_abs (hg : Gl X "abs") (hm : X.mg "abs" = none) (ha : PV X sl .b a fa) (he : starEach [a] X.env = (false, eval a X.env) :: starEach [] X.env := by rfl) :
    PV X sl .a (.Call (.Name "abs" p) [a] [] pos) (fun s => (fa s).bind fun x => some (x.natAbs : Int)) :=
  pv_c1 (fun h => pe_callB call_abs hg hm (by decide +kernel) (pa_cons h pa_nil he) (he := he)) (fun T H x u t Q hT r e q => by
    cases e
    exact ⟨u, by rw [rb_i r], q _ H (Same.refl H) (by show V.int _ = V.int _; congr 1; split <;> omega)⟩) ha
theorem pv_int1 (hg : Gl X "int") (hm : X.mg "int" = none) (ha : PV X sl .b a fa) (he : starEach [a] X.env = (false, eval a X.env) :: starEach [] X.env := by rfl) :
    PV X sl .a (.Call (.Name "int" p) [a] [] pos) (fun s => (fa s).bind fun x => some x) :=
  pv_c1 (fun h => pe_callTy call_int1 hg hm (by decide +kernel) (pa_cons h pa_nil he) (he := he)) (fun T H x u t Q hT r e q => by
    cases e
    exact .inl ⟨u, by rw [rb_i r], q _ H (Same.refl H) rfl⟩) ha
theorem pv_intB {fa : Γ → Option Bool} (hg : Gl X "int") (hm : X.mg "int" = none) (ha : PV X sl .b a fa) (he : starEach [a] X.env = (false, eval a X.env) :: starEach [] X.env := by rfl) :
    PV X sl .a (.Call (.Name "int" p) [a] [] pos) (fun s => (fa s).bind fun x => some (if x = true then (1 : Int) else 0)) :=
  pv_c1 (fun h => pe_callTy call_int1 hg hm (by decide +kernel) (pa_cons h pa_nil he) (he := he)) (fun T H x u t Q hT r e q => by
    cases e
    exact .inr ⟨u, by rw [rb_bool r], q _ H (Same.refl H) rfl⟩) ha
theorem pv_min2 (hg : Gl X "min") (hm : X.mg "min" = none) (ha : PV X sl .b a fa) (hb : PV X sl .b b fb) (he : starEach [a, b] X.env = (false, eval a X.env) :: starEach [b] X.env := by rfl) (he2 : starEach [b] X.env = (false, eval b X.env) :: starEach [] X.env := by rfl) (hpl : (backTo pos (starEach [b] X.env)).any (·.1) = false := by rfl) (hc : X.calm = true := by rfl) :
    PV X sl .a (.Call (.Name "min" p) [a, b] [] pos) (fun s => (fa s).bind fun x => (fb s).bind fun y => some (min x y)) :=
  pv_c2 (fun h1 h2 => pe_callB (call_min2 hc) hg hm (by decide +kernel) (pa_cons h1 (pa_cons h2 pa_nil he2) he) (he := he) (hpl := hpl)) (fun T H x y u w t Q hT r1 r2 e q => by
    cases e
    exact ⟨u, w, by rw [rb_i r1, rb_i r2], q _ H (Same.refl H) (by show V.int _ = V.int _; congr 1; split <;> omega)⟩) ha hb
theorem pv_max2 (hg : Gl X "max") (hm : X.mg "max" = none) (ha : PV X sl .b a fa) (hb : PV X sl .b b fb) (he : starEach [a, b] X.env = (false, eval a X.env) :: starEach [b] X.env := by rfl) (he2 : starEach [b] X.env = (false, eval b X.env) :: starEach [] X.env := by rfl) (hpl : (backTo pos (starEach [b] X.env)).any (·.1) = false := by rfl) (hc : X.calm = true := by rfl) :
    PV X sl .a (.Call (.Name "max" p) [a, b] [] pos) (fun s => (fa s).bind fun x => (fb s).bind fun y => some (max x y)) :=
  pv_c2 (fun h1 h2 => pe_callB (call_max2 hc) hg hm (by decide +kernel) (pa_cons h1 (pa_cons h2 pa_nil he2) he) (he := he) (hpl := hpl)) (fun T H x y u w t Q hT r1 r2 e q => by
    cases e
    exact ⟨u, w, by rw [rb_i r1, rb_i r2], q _ H (Same.refl H) (by show V.int _ = V.int _; congr 1; split <;> omega)⟩) ha hb
theorem pv_sum {fa : Γ → Option (List Int)} (hg : Gl X "sum") (hm : X.mg "sum" = none) (ha : PV X sl .b a fa) (he : starEach [a] X.env = (false, eval a X.env) :: starEach [] X.env := by rfl) (hc : X.calm = true := by rfl) :
    PV X sl .a (.Call (.Name "sum" p) [a] [] pos) (fun s => (fa s).bind fun x => some x.sum) :=
  pv_c1 (fun h => pe_callB (cr_sum hc) hg hm (by decide +kernel) (pa_cons h pa_nil he) (he := he)) (fun T H x u t Q hT r e q => by
    cases e
    obtain ⟨p, xs, rfl, h1, h2⟩ := rb_l r
    rw [rpa_int h2] at h1
    exact ⟨p, u, rfl, h1, q _ H (Same.refl H) rfl⟩) ha
theorem pv_any {fa : Γ → Option (List Bool)} (hg : Gl X "any") (hm : X.mg "any" = none) (ha : PV X sl .b a fa) (he : starEach [a] X.env = (false, eval a X.env) :: starEach [] X.env := by rfl) (hc : X.calm = true := by rfl) :
    PV X sl .a (.Call (.Name "any" p) [a] [] pos) (fun s => (fa s).bind fun x => some (x.any id)) :=
  pv_c1 (fun h => pe_callB (cr_any hc) hg hm (by decide +kernel) (pa_cons h pa_nil he) (he := he)) (fun T H x u t Q hT r e q => by
    cases e
    obtain ⟨p, xs, rfl, h1, h2⟩ := rb_l r
    rw [rpa_bool h2] at h1
    exact ⟨p, u, rfl, h1, q _ H (Same.refl H) rfl⟩) ha
theorem pv_all {fa : Γ → Option (List Bool)} (hg : Gl X "all") (hm : X.mg "all" = none) (ha : PV X sl .b a fa) (he : starEach [a] X.env = (false, eval a X.env) :: starEach [] X.env := by rfl) (hc : X.calm = true := by rfl) :
    PV X sl .a (.Call (.Name "all" p) [a] [] pos) (fun s => (fa s).bind fun x => some (x.all id)) :=
  pv_c1 (fun h => pe_callB (cr_all hc) hg hm (by decide +kernel) (pa_cons h pa_nil he) (he := he)) (fun T H x u t Q hT r e q => by
    cases e
    obtain ⟨p, xs, rfl, h1, h2⟩ := rb_l r
    rw [rpa_bool h2] at h1
    exact ⟨p, u, rfl, h1, q _ H (Same.refl H) rfl⟩) ha
/-- the least, the greatest of a list that is not empty -/
def least (x : List Int) : Option Int := match x with
  | [] => none
  | y :: ys => some (ys.foldl min y)
def most (x : List Int) : Option Int := match x with
  | [] => none
  | y :: ys => some (ys.foldl max y)
theorem foldl_min : ∀ (ys : List Int) (y m : Int), m ∈ y :: ys → (∀ z, z ∈ y :: ys → m ≤ z) → ys.foldl min y = m
  | [], y, m, h1, h2 => by simp at h1; simp [h1]
  | z :: ys, y, m, h1, h2 => by
    rw [List.foldl_cons]
    have hy := h2 y List.mem_cons_self
    have hz := h2 z (List.mem_cons_of_mem _ List.mem_cons_self)
    refine foldl_min ys (min y z) m ?_ fun w hw => ?_
    · rcases List.mem_cons.mp h1 with rfl | h1
      · rw [show min m z = m by omega]; exact List.mem_cons_self
      · rcases List.mem_cons.mp h1 with rfl | h1
        · rw [show min y m = m by omega]; exact List.mem_cons_self
        · exact List.mem_cons_of_mem _ h1
    · rcases List.mem_cons.mp hw with rfl | hw
      · omega
      · exact h2 w (List.mem_cons_of_mem _ (List.mem_cons_of_mem _ hw))
theorem foldl_max : ∀ (ys : List Int) (y m : Int), m ∈ y :: ys → (∀ z, z ∈ y :: ys → z ≤ m) → ys.foldl max y = m
  | [], y, m, h1, h2 => by simp at h1; simp [h1]
  | z :: ys, y, m, h1, h2 => by
    rw [List.foldl_cons]
    have hy := h2 y List.mem_cons_self
    have hz := h2 z (List.mem_cons_of_mem _ List.mem_cons_self)
    refine foldl_max ys (max y z) m ?_ fun w hw => ?_
    · rcases List.mem_cons.mp h1 with rfl | h1
      · rw [show max m z = m by omega]; exact List.mem_cons_self
      · rcases List.mem_cons.mp h1 with rfl | h1
        · rw [show max y m = m by omega]; exact List.mem_cons_self
        · exact List.mem_cons_of_mem _ h1
    · rcases List.mem_cons.mp hw with rfl | hw
      · omega
      · exact h2 w (List.mem_cons_of_mem _ (List.mem_cons_of_mem _ hw))
theorem pv_min1 {fa : Γ → Option (List Int)} (hg : Gl X "min") (hm : X.mg "min" = none) (ha : PV X sl .b a fa) (he : starEach [a] X.env = (false, eval a X.env) :: starEach [] X.env := by rfl) (hc : X.calm = true := by rfl) :
    PV X sl .a (.Call (.Name "min" p) [a] [] pos) (fun s => (fa s).bind fun x => least x) :=
  pv_c1 (fun h => pe_callB (cr_min hc) hg hm (by decide +kernel) (pa_cons h pa_nil he) (he := he)) (fun T H x u t Q hT r e q => by
    obtain ⟨p, xs, rfl, h1, h2⟩ := rb_l r
    rw [rpa_int h2] at h1
    cases u with
    | nil => cases e
    | cons y ys =>
      cases e
      exact ⟨p, _, rfl, h1, by simp, fun m hm hle => q _ H (Same.refl H) (by rw [foldl_min ys y m hm hle]; rfl)⟩) ha
theorem pv_max1 {fa : Γ → Option (List Int)} (hg : Gl X "max") (hm : X.mg "max" = none) (ha : PV X sl .b a fa) (he : starEach [a] X.env = (false, eval a X.env) :: starEach [] X.env := by rfl) (hc : X.calm = true := by rfl) :
    PV X sl .a (.Call (.Name "max" p) [a] [] pos) (fun s => (fa s).bind fun x => most x) :=
  pv_c1 (fun h => pe_callB (cr_max hc) hg hm (by decide +kernel) (pa_cons h pa_nil he) (he := he)) (fun T H x u t Q hT r e q => by
    obtain ⟨p, xs, rfl, h1, h2⟩ := rb_l r
    rw [rpa_int h2] at h1
    cases u with
    | nil => cases e
    | cons y ys =>
      cases e
      exact ⟨p, _, rfl, h1, by simp, fun m hm hle => q _ H (Same.refl H) (by rw [foldl_max ys y m hm hle]; rfl)⟩) ha
theorem pv_list [Enc τ] {fa : Γ → Option (List τ)} (hg : Gl X "list") (hm : X.mg "list" = none) (ha : PV X sl .b a fa) (he : starEach [a] X.env = (false, eval a X.env) :: starEach [] X.env := by rfl) :
    PV X sl .f (.Call (.Name "list" p) [a] [] pos) (fun s => (fa s).bind fun x => some x) :=
  pv_c1 (fun h => pe_callTy call_list_of hg hm (by decide +kernel) (pa_cons h pa_nil he) (he := he)) (fun T H x u t Q hT r e q => by
    cases e
    obtain ⟨p, xs, rfl, h1, h2⟩ := rb_l r
    exact ⟨p, xs, rfl, .inl h1, fun l hl => q _ _ (same_new hl) (fr_new hT hl h2)⟩) ha
theorem pv_lenS {fa : Γ → Option Tx} (hg : Gl X "len") (hm : X.mg "len" = none) (ha : PV X sl .b a fa) (he : starEach [a] X.env = (false, eval a X.env) :: starEach [] X.env := by rfl) :
    PV X sl .a (.Call (.Name "len" p) [a] [] pos) (fun s => (fa s).bind fun x => if x.cs.length ≤ sizeLine then some (x.cs.length : Int) else none) :=
  pv_c1 (fun h => pe_callB call_len_str hg hm PySem.boot_len (pa_cons h pa_nil he) (he := he)) (fun T H x u t Q hT r e q => by
    obtain ⟨hz, rfl⟩ := if_some e
    exact ⟨⟨u.cs.toArray⟩, by rw [rb_t r], hz, q _ H (Same.refl H) rfl⟩) ha
/-- sorted, ints -/
def srt (x : List Int) : List Int := x.mergeSort (fun a b => decide (a ≤ b))
theorem srt_uniq {xs ys : List Int} (p : ys.Perm xs) (s : ys.Pairwise (· ≤ ·)) : ys = srt xs := by
  have p2 : (srt xs).Perm xs := List.mergeSort_perm _ _
  have s2 : (srt xs).Pairwise (· ≤ ·) := by
    have h := List.pairwise_mergeSort (le := fun a b : Int => decide (a ≤ b)) (by intro a b c h1 h2; simp at *; omega) (by intro a b; simp; omega) xs
    exact h.imp (by intro a b h; simpa using h)
  exact (p.trans p2.symm).eq_of_pairwise (fun a b _ _ h1 h2 => by omega) s s2
theorem pv_sorted {fa : Γ → Option (List Int)} (hg : Gl X "sorted") (hm : X.mg "sorted" = none) (ha : PV X sl .b a fa) (he : starEach [a] X.env = (false, eval a X.env) :: starEach [] X.env := by rfl) :
    PV X sl .f (.Call (.Name "sorted" p) [a] [] pos) (fun s => (fa s).bind fun x => some (srt x)) :=
  pv_c1 (fun h => pe_callB cr_sortedI hg hm (by decide +kernel) (pa_cons h pa_nil he) (he := he)) (fun T H x u t Q hT r e q => by
    cases e
    obtain ⟨p, xs, rfl, h1, h2⟩ := rb_l r
    have e2 := rpa_int h2
    rw [e2] at h1
    refine ⟨p, u, rfl, h1, fun ns' l hp hs hl => ?_⟩
    rw [srt_uniq hp hs]
    refine q _ _ (same_new hl) (fr_new hT hl ?_)
    exact rpa_ints _) ha
theorem pv_gcd (hg : Gl X "gcd") {u : Value} (hm : X.mg "gcd" = some (.builtin "math.gcd")) (ha : PV X sl .b a fa) (hb : PV X sl .b b fb) (h : ∀ {ta tb : TE}, PE X a ta → PE X b tb → PE X (.Call (.Name "gcd" p) [a, b] [] pos) (tCB (rGcd) (tCons ta (tCons tb tNil)))) :
    PV X sl .a (.Call (.Name "gcd" p) [a, b] [] pos) (fun s => (fa s).bind fun x => (fb s).bind fun y => some ((Nat.gcd x.natAbs y.natAbs : Nat) : Int)) :=
  pv_c2 h (fun T H x y u w t Q hT r1 r2 e q => by
    cases e
    exact ⟨u, w, by rw [rb_i r1, rb_i r2], q _ H (Same.refl H) rfl⟩) ha hb
end
end PL

/-! PL6: statements. -/
namespace PL
open PySem PySem.Spec L2
open Enc (enc)

inductive Out (Γ ρ : Type) where
  | nx (g : Γ)
  | rt (r : ρ)
  deriving DecidableEq
variable {Γ Γ' Γ'' Γb ρ τ α β γ' δ : Type} {X : Cx} {sl : Γ → Sl} {sl' : Γ' → Sl} {sl'' : Γ'' → Sl} {e a b c d : Expr} {es : List Expr} {k k1 k2 k3 : Kd} {pos : Pos}

/-- what a def hands back; H, S: ahead of the code -/
def FrR (K : PySem.W.Frag) (S0 S : Ad) (H H' : Hp) (d : PyData) (v : V) : Prop :=
  ∃ p, v = .ref p ∧ (H p ≠ none → S p) ∧ ¬ S0 p ∧ ((∃ ds xs, d = .list ds ∧ H' p = some (.lst xs) ∧ RpA K H' (wi S0 p) ds xs) ∨ ∃ kvs es, d = .dict kvs ∧ H' p = some (.dK es) ∧ RpK K H' (wi S0 p) kvs es)
def RetV (kr : Kd) (K : PySem.W.Frag) (S0 S : Ad) (H H' : Hp) (d : PyData) (v : V) : Prop :=
  Mv S H no H' ∧ match kr with
  | .f => FrR K S0 S H H' d v
  | _ => Rp K H' S0 d v
theorem Mv.no {S S' : Ad} {H H' : Hp} (m : Mv S H S' H') : Mv S H no H' := fun a o h n => ⟨(m a o h n).1, fun z => z⟩
theorem Mv.no_trans {S S' : Ad} {H H' H'' : Hp} (m : Mv S H S' H') (m' : Mv S' H' PL.no H'') : Mv S H PL.no H'' := m.trans m'
theorem RetV.back {kr : Kd} {K : PySem.W.Frag} {S0 S S' : Ad} {H H' H'' : Hp} {d : PyData} {v : V} (m : Mv S H S' H') (r : RetV kr K S0 S' H' H'' d v) : RetV kr K S0 S H H'' d v := by
  refine ⟨m.no_trans r.1, ?_⟩
  have r2 := r.2
  cases kr with
  | a => exact r2
  | b => exact r2
  | f =>
    obtain ⟨p, e, h1, h2, h3⟩ := r2
    refine ⟨p, e, fun hp => ?_, h2, h3⟩
    cases hq : H p with
    | none => exact absurd hq hp
    | some o =>
      by_cases hs : S p
      · exact hs
      · obtain ⟨e1, e2⟩ := m p o hq hs
        exact absurd (h1 (by rw [e1]; simp)) e2

section
variable [Enc ρ]
def Post (K : PySem.W.Frag) (S0 S : Ad) (H : Hp) (sl' : Γ' → Sl) (kr : Kd) (D : Ends) : Out Γ' ρ → Prop
  | .nx g => ∀ σ' H' S', EnvS K S0 S' H' (sl' g) σ' → Mv S H S' H' → D.nx σ' H'
  | .rt r => ∀ v H', RetV kr K S0 S H H' (enc r) v → D.rt v H'
def tS (K : PySem.W.Frag) (sl : Γ → Sl) (sl' : Γ' → Sl) (kr : Kd) (f : Γ → Option (Out Γ' ρ)) : TS := fun D σ H =>
  ∃ (g : Γ) (S0 S : Ad) (o : Out Γ' ρ), EnvS K S0 S H (sl g) σ ∧ f g = some o ∧ Post K S0 S H sl' kr D o
def SV (X : Cx) (sl : Γ → Sl) (sl' : Γ' → Sl) (kr : Kd) (st : Stmt) (f : Γ → Option (Out Γ' ρ)) : Prop := PS X st (tS X.K sl sl' kr f)
def BV (X : Cx) (sl : Γ → Sl) (sl' : Γ' → Sl) (kr : Kd) (st : List Stmt) (f : Γ → Option (Out Γ' ρ)) : Prop := PSs X st (tS X.K sl sl' kr f)
def seqO (x : Option (Out Γ ρ)) (g : Γ → Option (Out Γ' ρ)) : Option (Out Γ' ρ) := x.bind fun o => match o with
  | .nx s => g s
  | .rt r => some (.rt r)
theorem Post.back {K : PySem.W.Frag} {S0 S S' : Ad} {H H' : Hp} {sl' : Γ' → Sl} {kr : Kd} {D : Ends} {o : Out Γ' ρ} (m : Mv S H S' H') (p : Post K S0 S H sl' kr D o) : Post K S0 S' H' sl' kr D o := by
  cases o with
  | nx g => exact fun σ' H'' S'' E m' => p σ' H'' S'' E (m.trans m')
  | rt r => exact fun v H'' q => p v H'' (q.back m)

/-! ### weakening -/
inductive Wk : Sl → Sl → Prop
  | nil : Wk [] []
  | s {x : Option (Mo × PyData)} {l l' : Sl} : Wk l l' → Wk (x :: l) (x :: l')
  | d {x : Option (Mo × PyData)} {l l' : Sl} : Wk l l' → Wk (x :: l) (none :: l')
  | sh {x : PyData} {l l' : Sl} : Wk l l' → Wk (some (.o, x) :: l) (some (.a, x) :: l')
theorem Wk.len {l l' : Sl} (w : Wk l l') : l'.length = l.length := by
  induction w with
  | nil => rfl
  | s _ ih => simp [ih]
  | d _ ih => simp [ih]
  | sh _ ih => simp [ih]
theorem Wk.at_ {l l' : Sl} (w : Wk l l') : ∀ {i : Nat} {m : Mo} {x : PyData}, l'[i]? = some (some (m, x)) → l[i]? = some (some (m, x)) ∨ (m = .a ∧ l[i]? = some (some (.o, x))) := by
  induction w with
  | nil => intro i m x h; simp at h
  | s _ ih =>
    intro i m x h
    cases i with
    | zero => exact .inl h
    | succ i => exact ih h
  | d _ ih =>
    intro i m x h
    cases i with
    | zero => simp at h
    | succ i => exact ih h
  | sh _ ih =>
    intro i m x h
    cases i with
    | zero =>
      have h : some (some (Mo.a, _)) = some (some (m, x)) := h
      cases h
      exact .inr ⟨rfl, rfl⟩
    | succ i => exact ih h
theorem Wk.refl : ∀ l : Sl, Wk l l
  | [] => .nil
  | _ :: l => .s (Wk.refl l)
theorem EnvS.wk {K : PySem.W.Frag} {S0 S : Ad} {H : Hp} {l l' : Sl} {σ : L2.St} (E : EnvS K S0 S H l σ) (w : Wk l l') : ∃ S', Mv S H S' H ∧ EnvS K S0 S' H l' σ := by
  refine ⟨fun a => S a ∧ ¬ ∃ (i : Nat) (d : PyData), l'[i]? = some (some (.a, d)) ∧ l[i]? = some (some (.o, d)) ∧ σ[i]? = some (some (.ref a)), .less fun a h => h.1, ?_⟩
  refine ⟨w.len.trans E.len, fun a h => E.dS a h.1, E.d0, fun a h => E.ap a h.1, fun i m d h => ?_, fun i j d e v hij hi hj hv => ?_⟩
  · have m0 : Mv S H (fun a => S a ∧ ¬ ∃ (i : Nat) (d : PyData), l'[i]? = some (some (.a, d)) ∧ l[i]? = some (some (.o, d)) ∧ σ[i]? = some (some (.ref a))) H := .less fun a h => h.1
    rcases w.at_ h with h1 | ⟨rfl, h1⟩
    · obtain ⟨v, hv, q⟩ := E.at_ i m d h1
      refine ⟨v, hv, ?_⟩
      cases m with
      | a => exact Rp.mv m0.un _ _ q
      | b => exact Rbs.mv m0 q
      | o =>
        obtain ⟨a, rfl, h2, h3⟩ := q
        refine ⟨a, rfl, ⟨h2, ?_⟩, ?_⟩
        · rintro ⟨j, d', e1, e2, e3⟩
          by_cases hij : i = j
          · subst hij
            rw [h] at e1
            cases e1
          · exact E.one i j d d' _ hij h1 e2 hv e3
        · rcases h3 with ⟨ds, xs, e1, e2, e3⟩ | ⟨ds, xs, e1, e2, e3⟩
          · exact .inl ⟨ds, xs, e1, e2, e3.mv m0.un⟩
          · exact .inr ⟨ds, xs, e1, e2, e3.mv m0.un⟩
    · obtain ⟨v, hv, a, rfl, h2, h3⟩ := E.at_ i _ d h1
      refine ⟨_, hv, ?_⟩
      have n1 : ¬ un (fun a => S a ∧ ¬ ∃ (i : Nat) (d : PyData), l'[i]? = some (some (.a, d)) ∧ l[i]? = some (some (.o, d)) ∧ σ[i]? = some (some (.ref a))) S0 a := by
        rintro (z | z)
        · exact z.2 ⟨i, d, h, h1, hv⟩
        · exact E.ap a h2 z
      rcases h3 with ⟨ds, xs, rfl, e2, e3⟩ | ⟨ds, xs, rfl, e2, e3⟩
      · exact ⟨a, xs, rfl, .inl ⟨.inl e2, n1⟩, e3.mv m0.un⟩
      · exact ⟨a, xs, rfl, ⟨.inl e2, n1⟩, e3.mv m0.un⟩
  · have oo : ∀ {i : Nat} {d : PyData}, l'[i]? = some (some (.o, d)) → l[i]? = some (some (.o, d)) := fun h => by
      rcases w.at_ h with h1 | ⟨e, _⟩
      · exact h1
      · cases e
    exact E.one i j d e v hij (oo hi) (oo hj) hv

/-! ### blocks -/
variable {kr : Kd} {st : Stmt} {sts sts2 : List Stmt}
theorem bv_nil {h : Γ → Γ'} (w : ∀ g, Wk (sl g) (sl' (h g))) : BV (ρ := ρ) X sl sl' kr [] (fun g => some (.nx (h g))) := PSs.imp pss_nil fun D σ H ⟨g, S0, S, o, E, hf, p⟩ => by
  cases hf
  obtain ⟨S', m, E'⟩ := E.wk (w g)
  exact p σ H S' E' m
theorem bv_wk {h : Γ → Γ''} {f : Γ'' → Option (Out Γ' ρ)} (w : ∀ g, Wk (sl g) (sl'' (h g))) (hb : BV X sl'' sl' kr sts f) : BV X sl sl' kr sts (fun g => f (h g)) := PSs.imp hb fun D σ H ⟨g, S0, S, o, E, hf, p⟩ => by
  obtain ⟨S', m, E'⟩ := E.wk (w g)
  exact ⟨h g, S0, S', o, E', hf, p.back m⟩
theorem bv_cons {f : Γ → Option (Out Γ'' ρ)} {g : Γ'' → Option (Out Γ' ρ)} (h1 : SV X sl sl'' kr st f) (h2 : BV X sl'' sl' kr sts g) : BV X sl sl' kr (st :: sts) (fun s => seqO (f s) g) := PSs.imp (pss_cons h1 h2) fun D σ H ⟨γ, S0, S, o, E, hf, p⟩ => by
  obtain ⟨o1, e1, e2⟩ := bind1 hf
  refine ⟨γ, S0, S, o1, E, e1, ?_⟩
  cases o1 with
  | nx g1 => exact fun σ' H' S' E' m => ⟨g1, S0, S', o, E', e2, p.back m⟩
  | rt r =>
    cases e2
    exact p
theorem BV.eq {f f' : Γ → Option (Out Γ' ρ)} (h : BV X sl sl' kr sts f) (h' : f' = f) : BV X sl sl' kr sts f' := h' ▸ h

/-! ### assignments -/
theorem set_get {l : List α} {i j : Nat} {x y : α} (h : (l.set i x)[j]? = some y) : (i = j ∧ x = y ∧ j < l.length) ∨ (i ≠ j ∧ l[j]? = some y) := by
  by_cases hij : i = j
  · subst hij
    by_cases hl : i < l.length
    · rw [List.getElem?_set_self hl] at h
      exact .inl ⟨rfl, Option.some.inj h, hl⟩
    · rw [List.getElem?_eq_none (by simpa using hl)] at h
      cases h
  · rw [List.getElem?_set_ne hij] at h
    exact .inr ⟨hij, h⟩
theorem EnvS.seta {K : PySem.W.Frag} {S0 S : Ad} {H : Hp} {l : Sl} {σ : L2.St} {i : Nat} {d : PyData} {v : V} (E : EnvS K S0 S H l σ) (r : Rp K H (un S S0) d v) : EnvS K S0 S H (l.set i (some (.a, d))) (σ.set i (some v)) := by
  refine ⟨by simp [E.len], E.dS, E.d0, E.ap, fun j m e h => ?_, fun j j' e e' w hij hj hj' hv => ?_⟩
  · rcases set_get h with ⟨rfl, e1, hl⟩ | ⟨hne, h⟩
    · cases e1
      exact ⟨v, by rw [List.getElem?_set_self (by rw [← E.len]; exact hl)], r⟩
    · obtain ⟨w, h1, h2⟩ := E.at_ j m e h
      exact ⟨w, by rw [List.getElem?_set_ne hne]; exact h1, h2⟩
  · rcases set_get hj with ⟨_, e1, _⟩ | ⟨hne, hj⟩
    · cases e1
    · rcases set_get hj' with ⟨_, e1, _⟩ | ⟨hne', hj'⟩
      · cases e1
      · rw [List.getElem?_set_ne hne] at hv
        rw [List.getElem?_set_ne hne']
        exact E.one j j' e e' w hij hj hj' hv
/-- a new object is owned -/
theorem EnvS.seto' {K : PySem.W.Frag} {S0 S : Ad} {H H' : Hp} {l : Sl} {σ : L2.St} {i : Nat} {d : PyData} {v : V} (E : EnvS K S0 S H l σ) (s : Same H H') (r : Fr K H H' (un S S0) d v) : ∃ p, v = .ref p ∧ Mv S H (wi S p) H' ∧ EnvS K S0 (wi S p) H' (l.set i (some (.o, d))) (σ.set i (some v)) := by
  obtain ⟨p, rfl, hp, r⟩ := r
  have nS : ¬ S p := fun z => E.dS p z hp
  have n0 : ¬ S0 p := fun z => E.d0 p z hp
  have hp' : H' p ≠ none := by
    rcases r with ⟨_, _, _, e, _⟩ | ⟨_, _, _, e, _⟩ <;> rw [e] <;> simp
  have mv : Mv S H (wi S p) H' := fun a o h n => ⟨s a o h, fun z => z.elim n (ne_of_none h hp)⟩
  have hun : ∀ a, un (wi S p) S0 a → wi (un S S0) p a := fun a z => by
    rcases z with (z | z) | z
    · exact .inl (.inl z)
    · exact .inr z
    · exact .inl (.inr z)
  refine ⟨p, rfl, mv, by simp [E.len], fun a h => ?_, fun a h => nn_same s (E.d0 a h), fun a h => ?_, fun j m e h => ?_, fun j j' e e' w hij hj hj' hv => ?_⟩
  · rcases h with h | rfl
    · exact nn_same s (E.dS a h)
    · exact hp'
  · rcases h with h | rfl
    · exact E.ap a h
    · exact n0
  · rcases set_get h with ⟨rfl, e1, hl⟩ | ⟨hne, h⟩
    · cases e1
      refine ⟨_, by rw [List.getElem?_set_self (by rw [← E.len]; exact hl)], p, rfl, .inr rfl, ?_⟩
      rcases r with ⟨ds, xs, e1, e2, e3⟩ | ⟨ds, xs, e1, e2, e3⟩
      · exact .inl ⟨ds, xs, e1, e2, e3.mv (.less hun)⟩
      · exact .inr ⟨ds, xs, e1, e2, e3.mv (.less hun)⟩
    · obtain ⟨w, h1, h2⟩ := E.at_ j m e h
      refine ⟨w, by rw [List.getElem?_set_ne hne]; exact h1, ?_⟩
      cases m with
      | a => exact Rp.mv mv.un _ _ h2
      | b => exact Rbs.mv mv h2
      | o =>
        obtain ⟨a, rfl, h2, h3⟩ := h2
        refine ⟨a, rfl, .inl h2, ?_⟩
        rcases h3 with ⟨ds, xs, e1, e2, e3⟩ | ⟨ds, xs, e1, e2, e3⟩
        · exact .inl ⟨ds, xs, e1, s _ _ e2, e3.mv mv.un⟩
        · exact .inr ⟨ds, xs, e1, s _ _ e2, e3.mv mv.un⟩
  · have other : ∀ {k : Nat} {x : PyData} {u : V}, l[k]? = some (some (.o, x)) → σ[k]? = some (some u) → u ≠ .ref p := fun {k x u} h1 h2 e => by
      obtain ⟨w, h3, a, e1, h4, _⟩ := E.at_ k _ x h1
      rw [h2] at h3
      cases h3
      rw [e] at e1
      cases e1
      exact nS h4
    rcases set_get hj with ⟨rfl, e1, hl⟩ | ⟨hne, hj⟩
    · rcases set_get hj' with ⟨rfl, _, _⟩ | ⟨hne', hj'⟩
      · exact absurd rfl hij
      · rw [List.getElem?_set_self (by rw [← E.len]; exact hl)] at hv
        cases hv
        rw [List.getElem?_set_ne hne']
        exact fun q => other hj' q rfl
    · rw [List.getElem?_set_ne hne] at hv
      rcases set_get hj' with ⟨rfl, e1, hl⟩ | ⟨hne', hj'⟩
      · rw [List.getElem?_set_self (by rw [← E.len]; exact hl)]
        intro q
        cases q
        exact other hj hv rfl
      · rw [List.getElem?_set_ne hne']
        exact E.one j j' e e' w hij hj hj' hv
theorem EnvS.seto {K : PySem.W.Frag} {S0 S : Ad} {H H' : Hp} {l : Sl} {σ : L2.St} {i : Nat} {d : PyData} {v : V} (E : EnvS K S0 S H l σ) (s : Same H H') (r : Fr K H H' (un S S0) d v) : ∃ S', Mv S H S' H' ∧ EnvS K S0 S' H' (l.set i (some (.o, d))) (σ.set i (some v)) := by
  obtain ⟨p, _, h1, h2⟩ := E.seto' (i := i) s r
  exact ⟨_, h1, h2⟩
section
variable [Enc τ] {f : Γ → Option τ} {i : Nat} {x : Str} {p' : Pos}
theorem sv_set (set : Γ → τ → Γ') (h : ∀ g t, sl' (set g t) = (sl g).set i (some (.a, enc t))) (hN : X.N.Nodup) (he : PV X sl .a e f) (hi : X.N[i]? = some x := by rfl) (hx : Loc X.env.scope x := by first | exact .inl rfl | exact .inr rfl)
    (hs : swapsWith e (some (.Name x p')) pos.line X.env = pure false := by rfl) (hf : X.fn x = true ∨ X.env.scope.names.lookup x = some .local := by first | exact .inl rfl | exact .inr rfl) :
    SV (ρ := ρ) X sl sl' kr (.Assign [.Name x p'] e pos) (fun g => (f g).bind fun t => some (.nx (set g t))) := PS.imp (ps_set (i := i) hN hi hx he hs hf) fun D σ H ⟨γ, S0, S, o, E, hf, p⟩ => by
  obtain ⟨t, e1, e2⟩ := bind1 hf
  cases e2
  refine ⟨γ, S0, S, t, E, e1, fun v H' s r => ?_⟩
  refine p _ _ S ?_ (.same s)
  rw [h]
  exact (E.same s).seta r
theorem sv_own (set : Γ → τ → Γ') (h : ∀ g t, sl' (set g t) = (sl g).set i (some (.o, enc t))) (hN : X.N.Nodup) (he : PV X sl .f e f) (hi : X.N[i]? = some x := by rfl) (hx : Loc X.env.scope x := by first | exact .inl rfl | exact .inr rfl)
    (hs : swapsWith e (some (.Name x p')) pos.line X.env = pure false := by rfl) (hf : X.fn x = true ∨ X.env.scope.names.lookup x = some .local := by first | exact .inl rfl | exact .inr rfl) :
    SV (ρ := ρ) X sl sl' kr (.Assign [.Name x p'] e pos) (fun g => (f g).bind fun t => some (.nx (set g t))) := PS.imp (ps_set (i := i) hN hi hx he hs hf) fun D σ H ⟨γ, S0, S, o, E, hf, p⟩ => by
  obtain ⟨t, e1, e2⟩ := bind1 hf
  cases e2
  refine ⟨γ, S0, S, t, E, e1, fun v H' s r => ?_⟩
  obtain ⟨S', m, E'⟩ := E.seto (i := i) s r
  refine p _ _ S' ?_ m
  rw [h]
  exact E'
end
/-- an expression's value dropped -/
theorem sv_expr [Enc τ] {f : Γ → Option τ} (he : PV X sl k e f) (hs : swapsWith e none pos.line X.env = pure false := by rfl) : SV (ρ := ρ) X sl sl kr (.Expr e pos) (fun g => (f g).bind fun _ => some (.nx g)) := PS.imp (ps_expr he hs) fun D σ H ⟨γ, S0, S, o, E, hf, p⟩ => by
  obtain ⟨t, e1, e2⟩ := bind1 hf
  cases e2
  exact ⟨γ, S0, S, t, E, e1, fun v H' s r => p _ _ S (E.same s) (.same s)⟩
theorem sv_pass : SV (ρ := ρ) X sl sl kr (.Pass pos) (fun g => some (.nx g)) := PS.imp ps_pass fun D σ H ⟨γ, S0, S, o, E, hf, p⟩ => by
  cases hf
  exact p _ _ S E .refl
/-- code that is not come to -/
theorem sv_never : SV (ρ := ρ) X sl sl' kr st (fun _ => none) := PS.imp ps_never fun D σ H ⟨γ, S0, S, o, E, hf, p⟩ => by cases hf

/-! ### return -/
theorem sv_ret {f : Γ → Option ρ} (he : PV X sl .a e f) : SV (ρ := ρ) X sl sl' .a (.Return (some e) pos) (fun g => (f g).bind fun r => some (.rt r)) := PS.imp (ps_ret he) fun D σ H ⟨γ, S0, S, o, E, hf, p⟩ => by
  obtain ⟨t, e1, e2⟩ := bind1 hf
  cases e2
  exact ⟨γ, S0, S, t, E, e1, fun v H' s r => p v H' ⟨(Mv.same s).no, Rp.mv (.less fun a z => .inr z) _ _ r⟩⟩
theorem sv_retf {f : Γ → Option ρ} (he : PV X sl .f e f) : SV (ρ := ρ) X sl sl' .f (.Return (some e) pos) (fun g => (f g).bind fun r => some (.rt r)) := PS.imp (ps_ret he) fun D σ H ⟨γ, S0, S, o, E, hf, p⟩ => by
  obtain ⟨t, e1, e2⟩ := bind1 hf
  cases e2
  refine ⟨γ, S0, S, t, E, e1, fun v H' s r => p v H' ⟨(Mv.same s).no, ?_⟩⟩
  obtain ⟨q, rfl, hq, r⟩ := r
  have n0 : ¬ S0 q := fun z => E.d0 q z hq
  refine ⟨q, rfl, fun z => absurd hq z, n0, ?_⟩
  rcases r with ⟨ds, xs, e1, e2, e3⟩ | ⟨ds, xs, e1, e2, e3⟩
  · exact .inl ⟨ds, xs, e1, e2, e3.mv (.less fun a z => z.elim (fun z => .inl (.inr z)) .inr)⟩
  · exact .inr ⟨ds, xs, e1, e2, e3.mv (.less fun a z => z.elim (fun z => .inl (.inr z)) .inr)⟩
/-- an owned list handed back -/
theorem sv_reto {i : Nat} {x : Str} {p0 : Pos} (q : Γ → ρ) (h : ∀ g, (sl g)[i]? = some (some (.o, enc (q g)))) (hN : X.N[i]? = some x := by rfl)
    (hv : Vis X.env.scope x := by first | exact Or.inl rfl | exact Or.inr (Or.inl rfl) | exact Or.inr (Or.inr rfl)) (hd : (x == ("__debug__" : Str)) = false := by decide) (hcd : (x == ("__classdict__" : Str)) = false := by decide) :
    SV (ρ := ρ) X sl sl' .f (.Return (some (.Name x p0)) pos) (fun g => some (.rt (q g))) := PS.imp (ps_ret (pe_var (i := i) hN hv hd hcd)) fun D σ H ⟨γ, S0, S, o, E, hf, p⟩ => by
  cases hf
  obtain ⟨v, h1, a, rfl, h2, h3⟩ := E.at_ i _ _ (h γ)
  refine ⟨_, h1, p _ _ ⟨(Mv.refl (T := S)).no, a, rfl, fun _ => h2, E.ap a h2, ?_⟩⟩
  rcases h3 with ⟨ds, xs, e1, e2, e3⟩ | ⟨ds, xs, e1, e2, e3⟩
  · exact .inl ⟨ds, xs, e1, e2, e3.mv (.less fun b z => z.elim .inr fun z => .inl (z ▸ h2))⟩
  · exact .inr ⟨ds, xs, e1, e2, e3.mv (.less fun b z => z.elim .inr fun z => .inl (z ▸ h2))⟩

/-! ### if -/
theorem sv_if {c : Expr} {fc : Γ → Option Bool} {f g : Γ → Option (Out Γ' ρ)} (hc : PB X sl c fc) (ha : BV X sl sl' kr sts f) (hb : BV X sl sl' kr sts2 g) : SV X sl sl' kr (.If c sts sts2 pos) (fun s => (fc s).bind fun t => if t = true then f s else g s) :=
  PS.imp (ps_if hc ha hb) fun D σ H ⟨γ, S0, S, o, E, hf, p⟩ => by
    obtain ⟨t, e1, e2⟩ := bind1 hf
    refine ⟨γ, S0, S, t, E, e1, fun H' s => ?_⟩
    cases t with
    | true => exact ⟨γ, S0, S, o, E.same s, e2, p.back (.same s)⟩
    | false => exact ⟨γ, S0, S, o, E.same s, e2, p.back (.same s)⟩

/-! ### while -/
def whileO (c : Γ → Option Bool) (b : Γ → Option (Out Γ ρ)) : Nat → Γ → Option (Out Γ ρ)
  | 0, _ => none
  | n + 1, g => (c g).bind fun t => if t = true then seqO (b g) (whileO c b n) else some (.nx g)
theorem sv_while {c : Expr} (n : Nat) {fc : Γ → Option Bool} {f : Γ → Option (Out Γ ρ)} (hp : PassesOwn (model X.prog X.w) X.A X.env X.xe) (hc : PB X sl c fc) (hb : BV X sl sl kr sts f) : SV X sl sl kr (.While c sts [] pos) (whileO fc f n) :=
  PS.imp (ps_while hp hc hb) fun D σ H ⟨γ, S0, S, o, E, hf, p⟩ => by
    refine ⟨fun m σ1 H1 => ∃ g1 S1, EnvS X.K S0 S1 H1 (sl g1) σ1 ∧ whileO fc f m g1 = some o ∧ Post X.K S0 S1 H1 sl kr D o, ⟨n, γ, S, E, hf, p⟩, ?_⟩
    rintro m σ1 H1 ⟨g1, S1, E1, h1, p1⟩
    cases m with
    | zero => cases h1
    | succ m =>
      obtain ⟨t, e1, e2⟩ := bind1 h1
      refine ⟨g1, S0, S1, t, E1, e1, fun H2 s2 => ?_⟩
      have E2 := E1.same s2
      have p2 : Post X.K S0 S1 H2 sl kr D o := p1.back (.same s2)
      cases t with
      | false =>
        cases e2
        exact iteF (p2 σ1 H2 S1 E2 .refl)
      | true =>
        obtain ⟨o1, e3, e4⟩ := bind1 (show seqO (f g1) (whileO fc f m) = some o from e2)
        refine iteT ⟨fun σ' H' => ∃ g' S', EnvS X.K S0 S' H' (sl g') σ' ∧ whileO fc f m g' = some o ∧ Post X.K S0 S' H' sl kr D o, fun σ' H' q => ⟨m, Nat.lt_succ_self m, q⟩, g1, S0, S1, o1, E2, e3, ?_⟩
        cases o1 with
        | nx g' => exact fun σ' H' S' E' m' => ⟨g', S', E', e4, p2.back m'⟩
        | rt r =>
          cases e4
          exact p2
end
end PL

/-! PL7: stores, loops over things, comprehensions, defs. -/
namespace PL
open PySem PySem.Spec L2
open Enc (enc)

variable {Γ Γ' Γ'' Γb Γc ρ τ α β γ' δ ι : Type} {X : Cx} {sl : Γ → Sl} {sl' : Γ' → Sl} {sl'' : Γ'' → Sl} {slb : Γb → Sl} {slc : Γc → Sl} {e a b c d : Expr} {es : List Expr} {k k1 k2 k3 : Kd} {pos : Pos} {kr : Kd} {st : Stmt} {sts sts2 : List Stmt}

/-! ### an owned list changed -/
theorem EnvS.chg {K : PySem.W.Frag} {S0 S : Ad} {H : Hp} {l : Sl} {σ : L2.St} {i : Nat} {d d' : PyData} {a : Addr} {u : HO} (E : EnvS K S0 S H l σ) (hi : l[i]? = some (some (.o, d))) (hv : σ[i]? = some (some (.ref a))) (hS : S a)
    (new : Mv S H S (upd H a u) → Ow K (upd H a u) (un S S0) d' a) : Mv S H S (upd H a u) ∧ EnvS K S0 S (upd H a u) (l.set i (some (.o, d'))) σ := by
  have mv : Mv S H S (upd H a u) := fun b o h n => ⟨by rw [upd_ne fun z => n (by rw [z]; exact hS)]; exact h, n⟩
  have nn : ∀ b, H b ≠ none → upd H a u b ≠ none := fun b h => by
    by_cases hb : b = a
    · subst hb; rw [upd_same]; simp
    · rw [upd_ne hb]; exact h
  refine ⟨mv, by simp [E.len], fun b h => nn b (E.dS b h), fun b h => nn b (E.d0 b h), E.ap, fun j m e h => ?_, fun j j' e e' w hij hj hj' hw => ?_⟩
  · rcases set_get h with ⟨rfl, e1, hl⟩ | ⟨hne, h⟩
    · cases e1
      exact ⟨_, hv, a, rfl, hS, new mv⟩
    · obtain ⟨w, h1, h2⟩ := E.at_ j m e h
      refine ⟨w, h1, ?_⟩
      cases m with
      | a => exact Rp.mv mv.un _ _ h2
      | b => exact Rbs.mv mv h2
      | o =>
        obtain ⟨q, rfl, h2, h3⟩ := h2
        have hq : q ≠ a := fun z => E.one i j d e _ hne hi h hv (z ▸ h1)
        refine ⟨q, rfl, h2, ?_⟩
        rcases h3 with ⟨ds, xs, e1, e2, e3⟩ | ⟨ds, xs, e1, e2, e3⟩
        · exact .inl ⟨ds, xs, e1, by rw [upd_ne hq]; exact e2, e3.mv mv.un⟩
        · exact .inr ⟨ds, xs, e1, by rw [upd_ne hq]; exact e2, e3.mv mv.un⟩
  · have oo : ∀ {j : Nat} {e : PyData}, (l.set i (some (.o, d')))[j]? = some (some (.o, e)) → ∃ e', l[j]? = some (some (.o, e')) := fun h => by
      rcases set_get h with ⟨rfl, _, _⟩ | ⟨_, h⟩
      · exact ⟨_, hi⟩
      · exact ⟨_, h⟩
    obtain ⟨x, hx⟩ := oo hj
    obtain ⟨y, hy⟩ := oo hj'
    exact E.one j j' x y w hij hx hy hw
def push (l : List τ) (t : τ) : Option (List τ) := if l.length < sizeLine then some (l ++ [t]) else none
section
variable [Enc ρ] [Enc τ] {f : Γ → Option τ} {i : Nat} {x : Str} {p0 : Pos} {apos cpos : Pos}
/-- x.append(e), x owned -/
theorem sv_app (q : Γ → List τ) (set : Γ → List τ → Γ') (hq : ∀ g, (sl g)[i]? = some (some (.o, enc (q g)))) (h : ∀ g t, sl' (set g t) = (sl g).set i (some (.o, enc t))) (he : PV X sl .a e f) (hN : X.N[i]? = some x := by rfl)
    (hv : Vis X.env.scope x := by first | exact Or.inl rfl | exact Or.inr (Or.inl rfl) | exact Or.inr (Or.inr rfl)) (hd : (x == ("__debug__" : Str)) = false := by decide) (hcd : (x == ("__classdict__" : Str)) = false := by decide)
    (hbase : attributeBase (.Name x p0) "append" X.env (eval (.Name x p0) X.env) = eval (.Name x p0) X.env := by rfl)
    (hfew : ((backTo cpos (starEach [e] X.env)).all (fun x => !x.1) && (backToKw cpos (keywordEach [] X.env)).all (fun x => x.1.isSome)
      && decide ([e].length + ([] : List Keyword).length + (if ([] : List Keyword).isEmpty then 0 else 1) < 30)) = true := by rfl)
    (hline : (apos.endLine == cpos.line) = true := by rfl) (hs1 : starEach [e] X.env = (false, eval e X.env) :: starEach [] X.env := by rfl) (hplain : (backTo cpos (starEach [] X.env)).any (·.1) = false := by rfl)
    (hs : swapsWith (.Call (.Attribute (.Name x p0) "append" apos) [e] [] cpos) none pos.line X.env = pure false := by rfl) :
    SV (ρ := ρ) X sl sl' kr (.Expr (.Call (.Attribute (.Name x p0) "append" apos) [e] [] cpos) pos) (fun g => (f g).bind fun t => (push (q g) t).bind fun l => some (.nx (set g l))) :=
  PS.imp (ps_expr (pe_bm PySem.F.plainAttrs_list PySem.F.slot_list_append PySem.F.type_list_append mt_append (pe_var (i := i) hN hv hd hcd) (pa_cons he pa_nil hs1) hbase hfew hline hs1 hplain) hs) fun D σ H ⟨γ, S0, S, o, E, hf, p⟩ => by
    obtain ⟨t, e1, e2⟩ := bind1 hf
    obtain ⟨l, e3, e4⟩ := bind1 e2
    cases e4
    obtain ⟨hz, rfl⟩ := if_some e3
    obtain ⟨v, h1, a, rfl, h2, h3⟩ := E.at_ i _ _ (hq γ)
    rcases h3 with ⟨ds, xs, e1', e2', e3'⟩ | ⟨_, _, e1', _⟩
    · cases e1'
      refine ⟨_, h1, .inl ⟨rfl, xs, .inl (.inl e2')⟩, γ, S0, S, t, E, e1, fun y H1 s1 r1 => ?_⟩
      have E1 := E.same s1
      have hH1 := s1 _ _ e2'
      have hx : RpA X.K H1 (un S S0) ((q γ).map enc) xs := e3'.mv (.same s1)
      refine ⟨a, xs, y, rfl, rfl, hH1, by rw [map_len hx]; exact hz, ?_⟩
      obtain ⟨mv, E2⟩ := E1.chg (u := .lst (xs ++ [y])) (d' := enc (q γ ++ [t])) (hq γ) h1 h2 fun mv => .inl ⟨_, _, rfl, upd_same, by
        rw [List.map_append]
        exact (hx.mv mv.un).append (.one (Rp.mv mv.un _ _ r1))⟩
      refine p _ _ S ?_ ((Mv.same s1).trans mv)
      rw [h]
      exact E2
    · cases e1'
/-- x[j] = e, x an owned list -/
def lSet (l : List τ) (j : Int) (t : τ) : Option (List τ) := (ixN l.length j).bind fun n => some (l.set n t)
theorem sv_put {g : Γ → Option Int} {jx : Expr} {ipos : Pos} (q : Γ → List τ) (set : Γ → List τ → Γ') (hq : ∀ g, (sl g)[i]? = some (some (.o, enc (q g)))) (h : ∀ g t, sl' (set g t) = (sl g).set i (some (.o, enc t))) (he : PV X sl .a e f) (hj : PV X sl .b jx g) (hN : X.N[i]? = some x := by rfl)
    (hv : Vis X.env.scope x := by first | exact Or.inl rfl | exact Or.inr (Or.inl rfl) | exact Or.inr (Or.inr rfl)) (hd : (x == ("__debug__" : Str)) = false := by decide) (hcd : (x == ("__classdict__" : Str)) = false := by decide)
    (ha : ∀ v, assign (.Subscript (.Name x p0) jx ipos) X.env v = (do
      let ov ← holding [v] (eval (.Name x p0) X.env)
      let iv ← holding [v, ov] (eval jx X.env)
      standAt ipos
      holding [v, ov, iv] (setItem ov iv v)
      release [v, ov, iv] []) := by intro _; rfl)
    (hs : swapsWithSole [.Subscript (.Name x p0) jx ipos] e pos.line X.env = pure false := by rfl) (hw : swappedStores [.Subscript (.Name x p0) jx ipos] e X.env = pure none := by rfl)
    (h1 : (assignEach [.Subscript (.Name x p0) jx ipos] X.env).map (·.2) = [assign (.Subscript (.Name x p0) jx ipos) X.env] := by rfl) :
    SV (ρ := ρ) X sl sl' kr (.Assign [.Subscript (.Name x p0) jx ipos] e pos) (fun s => (f s).bind fun t => (g s).bind fun j => (lSet (q s) j t).bind fun l => some (.nx (set s l))) :=
  PS.imp (ps_asg he (pg_sub (pe_var (i := i) hN hv hd hcd) hj set_list ha) hs hw h1) fun D σ H ⟨γ, S0, S, o, E, hf, p⟩ => by
    obtain ⟨t, j, e1, e2, e3⟩ := bind2 hf
    obtain ⟨l, e4, e5⟩ := bind1 e3
    cases e5
    obtain ⟨n, e6, e7⟩ := bind1 e4
    cases e7
    refine ⟨γ, S0, S, t, E, e1, fun y H1 s1 r1 => ?_⟩
    have E1 := E.same s1
    obtain ⟨v, h1, a, rfl, h2, h3⟩ := E1.at_ i _ _ (hq γ)
    refine ⟨_, h1, γ, S0, S, j, E1, e2, fun z H2 s2 r2 => ?_⟩
    have E2 := E1.same s2
    rcases h3 with ⟨ds, xs, e1', e2', e3'⟩ | ⟨_, _, e1', _⟩
    · cases e1'
      have hx : RpA X.K H2 (un S S0) ((q γ).map enc) xs := e3'.mv (.same s2)
      refine ⟨a, xs, j, n, rfl, rb_i r2, s2 _ _ e2', by rw [map_len hx]; exact e6, ?_⟩
      obtain ⟨mv, E3⟩ := E2.chg (u := .lst (xs.set n y)) (d' := enc ((q γ).set n t)) (hq γ) h1 h2 fun mv => .inl ⟨_, _, rfl, upd_same, by
        rw [List.map_set]
        exact (hx.mv mv.un).set n (Rp.mv (Mv.trans (.same s2) mv.un) _ _ r1)⟩
      refine p _ _ S ?_ ((Mv.same (s1.trans s2)).trans mv)
      rw [h]
      exact E3
    · cases e1'
end

/-! ### targets -/
def wipeS (l : Sl) : List Nat → Sl
  | [] => l
  | v :: vs => (wipeS l vs).set v none
theorem wipeS_len (l : Sl) : ∀ vs : List Nat, (wipeS l vs).length = l.length
  | [] => rfl
  | v :: vs => by unfold wipeS; rw [List.length_set, wipeS_len l vs]
theorem wipeS_get {l : Sl} : ∀ {vs : List Nat} {i : Nat} {x : Mo × PyData}, (wipeS l vs)[i]? = some (some x) → l[i]? = some (some x) ∧ i ∉ vs
  | [], i, x, h => ⟨h, by simp⟩
  | v :: vs, i, x, h => by
    unfold wipeS at h
    rcases set_get h with ⟨_, e, _⟩ | ⟨hne, h⟩
    · cases e
    · obtain ⟨h1, h2⟩ := wipeS_get h
      exact ⟨h1, by simp only [List.mem_cons, not_or]; exact ⟨fun e => hne e.symm, h2⟩⟩
theorem wipe_in {σ : L2.St} {i : Nat} : ∀ {vs : List Nat}, i ∈ vs → i < σ.length → (wipe σ vs)[i]? = some none
  | v :: vs, h, hl => by
    unfold wipe
    by_cases hi : v = i
    · subst hi
      rw [List.getElem?_set_self (by rw [wipe_length]; exact hl)]
    · rw [List.getElem?_set_ne hi]
      rcases List.mem_cons.mp h with e | h
      · exact absurd e.symm hi
      · exact wipe_in h hl
theorem wipe_eq {σ σ' : L2.St} {vs : List Nat} (hl : σ'.length = σ.length) (h : ∀ i, i ∉ vs → σ'[i]? = σ[i]?) : wipe σ' vs = wipe σ vs := by
  apply List.ext_getElem?
  intro i
  by_cases hi : i ∈ vs
  · by_cases hn : i < σ.length
    · rw [wipe_in hi hn, wipe_in hi (by rw [hl]; exact hn)]
    · rw [List.getElem?_eq_none (by rw [wipe_length]; omega), List.getElem?_eq_none (by rw [wipe_length]; omega)]
  · rw [wipe_out hi, wipe_out hi, h i hi]
theorem wipe_set {σ : L2.St} {vs : List Nat} {j : Nat} {y : Option V} (h : j ∈ vs) : wipe (σ.set j y) vs = wipe σ vs :=
  wipe_eq (by simp) fun i hi => by rw [List.getElem?_set_ne]; exact fun e => hi (e ▸ h)
theorem wipe_wipe {σ : L2.St} {vs : List Nat} : wipe (wipe σ vs) vs = wipe σ vs := wipe_eq (wipe_length σ vs) fun i hi => wipe_out hi
theorem EnvS.wipe {K : PySem.W.Frag} {S0 S : Ad} {H : Hp} {l : Sl} {σ : L2.St} (E : EnvS K S0 S H l σ) (vs : List Nat) : EnvS K S0 S H (wipeS l vs) (L2.wipe σ vs) := by
  refine ⟨by rw [wipeS_len, wipe_length]; exact E.len, E.dS, E.d0, E.ap, fun i m d h => ?_, fun i j d e v hij hi hj hv => ?_⟩
  · obtain ⟨h1, h2⟩ := wipeS_get h
    rw [wipe_out h2]
    exact E.at_ i m d h1
  · obtain ⟨h1, h2⟩ := wipeS_get hi
    obtain ⟨h3, h4⟩ := wipeS_get hj
    rw [wipe_out h2] at hv
    rw [wipe_out h4]
    exact E.one i j d e v hij h1 h3 hv
/-- a value for a target: what is stored is told by set, at the slots js -/
def tG [Enc ι] (K : PySem.W.Frag) (sl : Γ → Sl) (slb : Γb → Sl) (set : Γ → ι → Γb) (js : List Nat) : TG := fun v σ H Q =>
  ∃ (g : Γ) (S0 S : Ad) (x : ι), EnvS K S0 S H (sl g) σ ∧ Rp K H (un S S0) (enc x) v ∧ ∀ σ', EnvS K S0 S H (slb (set g x)) σ' → (∀ vs : List Nat, (∀ i ∈ js, i ∈ vs) → wipe σ' vs = wipe σ vs) → Q σ' H
def GV [Enc ι] (X : Cx) (sl : Γ → Sl) (slb : Γb → Sl) (tg : Expr) (set : Γ → ι → Γb) (js : List Nat) : Prop := PG X tg (tG X.K sl slb set js)
theorem PG.imp {X : Cx} {tg : Expr} {t t' : TG} (h : PG X tg t) (i : ∀ v σ H Q, t' v σ H Q → t v σ H Q) : PG X tg t' := ⟨fun pins s σ H v u Q I r q => h.run pins s σ H v u Q I r (i v σ H Q q)⟩
theorem PGs.imp {X : Cx} {tg : List Expr} {t t' : TGs} (h : PGs X tg t) (i : ∀ v σ H Q, t' v σ H Q → t v σ H Q) : PGs X tg t' := ⟨fun pins s σ H v u Q I r q => h.run pins s σ H v u Q I r (i v σ H Q q)⟩
theorem gv_name [Enc ι] {set : Γ → ι → Γb} {i : Nat} {x : Str} (h : ∀ g t, slb (set g t) = (sl g).set i (some (.a, enc t))) (hN : X.N.Nodup) (hi : X.N[i]? = some x := by rfl) (hx : Loc X.env.scope x := by first | exact .inl rfl | exact .inr rfl)
    (hf : X.fn x = true ∨ X.env.scope.names.lookup x = some .local := by first | exact .inl rfl | exact .inr rfl) : GV X sl slb (.Name x pos) set [i] := PG.imp (pg_name hN hi hx hf) fun v σ H Q ⟨g, S0, S, x, E, r, q⟩ => by
  refine q _ ?_ fun vs hv => wipe_set (hv i (by simp))
  rw [h]
  exact E.seta r
/-- targets one after another -/
def tGs (K : PySem.W.Frag) (sl : Γ → Sl) (slb : Γb → Sl) (ds : ι → List PyData) (set : Γ → ι → Γb) (js : List Nat) : TGs := fun vs σ H Q =>
  ∃ (g : Γ) (S0 S : Ad) (x : ι), EnvS K S0 S H (sl g) σ ∧ RpA K H (un S S0) (ds x) vs ∧ ∀ σ', EnvS K S0 S H (slb (set g x)) σ' → (∀ vs : List Nat, (∀ i ∈ js, i ∈ vs) → wipe σ' vs = wipe σ vs) → Q σ' H
theorem gvs_nil : PGs X [] (tGs (ι := ι) X.K sl sl (fun _ => []) (fun g _ => g) []) := PGs.imp pgs_nil fun vs σ H Q ⟨g, S0, S, x, E, r, q⟩ => ⟨r, q σ E fun _ _ => rfl⟩
theorem gvs_cons [Enc α] {e : Expr} {es : List Expr} {slm : Γ' → Sl} {set1 : Γ → α → Γ'} {set2 : Γ' → β → Γb} {js1 js2 : List Nat} {ds : β → List PyData} {p1 : ι → α} {p2 : ι → β} (h1 : GV X sl slm e set1 js1) (h2 : PGs X es (tGs X.K slm slb ds set2 js2))
    (hs : (assignEach (e :: es) X.env).map (·.2) = assign e X.env :: (assignEach es X.env).map (·.2) := by rfl) :
    PGs X (e :: es) (tGs X.K sl slb (fun x => enc (p1 x) :: ds (p2 x)) (fun g x => set2 (set1 g (p1 x)) (p2 x)) (js1 ++ js2)) := PGs.imp (pgs_cons h1 h2 hs) fun vs σ H Q ⟨g, S0, S, x, E, r, q⟩ => by
  obtain ⟨v, ws, rfl, r1, r2⟩ := r
  refine ⟨v, ws, rfl, g, S0, S, p1 x, E, r1, fun σ1 E1 w1 => ⟨_, S0, S, p2 x, E1, r2, fun σ2 E2 w2 => q σ2 E2 fun vs hv => ?_⟩⟩
  rw [w2 vs fun i hi => hv i (by simp [hi]), w1 vs fun i hi => hv i (by simp [hi])]
theorem gv_tup [Enc ι] {es : List Expr} {kk n : Nat} {set : Γ → ι → Γb} {js : List Nat} (ds : ι → List PyData) (hd : ∀ x, enc x = .tuple (ds x)) (hl : ∀ x, (ds x).length = n) (h : PGs X es (tGs X.K sl slb ds set js)) (hc : X.calm = true := by rfl)
    (hn : (assignEach es X.env).length = n := by rfl) (hst : (assignEach es X.env).findIdx? (·.1) = none := by rfl) : GV X sl slb (.Tuple es kk pos) set js := PG.imp (pg_tup hc h hn hst) fun v σ H Q ⟨g, S0, S, x, E, r, q⟩ => by
  rw [hd] at r
  obtain ⟨a, xs, rfl, h1, h2⟩ := r
  exact ⟨a, xs, rfl, h1.sq, by rw [h2.length, hl], g, S0, S, x, E, h2, q⟩
/-- a, b = e -/
theorem sv_tup [Enc ρ] [Enc ι] {tg : Expr} {f : Γ → Option ι} {set : Γ → ι → Γ'} {js : List Nat} (hg : GV X sl sl' tg set js) (he : PV X sl .a e f) (hs : swapsWithSole [tg] e pos.line X.env = pure false := by rfl) (hw : swappedStores [tg] e X.env = pure none := by rfl)
    (h1 : (assignEach [tg] X.env).map (·.2) = [assign tg X.env] := by rfl) : SV (ρ := ρ) X sl sl' kr (.Assign [tg] e pos) (fun g => (f g).bind fun t => some (.nx (set g t))) :=
  PS.imp (ps_asg he hg hs hw h1) fun D σ H ⟨γ, S0, S, o, E, hf, p⟩ => by
    obtain ⟨t, e1, e2⟩ := bind1 hf
    cases e2
    exact ⟨γ, S0, S, t, E, e1, fun v H' s r => ⟨γ, S0, S, t, E.same s, r, fun σ' E' _ => p σ' H' S E' (.same s)⟩⟩
/-- a, b = x, y: two local names -/
theorem sv_par [Enc ρ] [Enc α] [Enc β] {i j : Nat} {x y : Str} {px py pt : Pos} {kt k2 : Nat} {pt2 : Pos} {fa : Γ → Option α} {fb : Γ → Option β} (set : Γ → α → β → Γ') (h : ∀ g t u, sl' (set g t u) = ((sl g).set i (some (.a, enc t))).set j (some (.a, enc u)))
    (hN : X.N.Nodup) (ha : PV X sl .a a fa) (hb : PV X sl .a b fb) (hij : i ≠ j := by decide) (hi : X.N[i]? = some x := by rfl) (hj : X.N[j]? = some y := by rfl) (hx : X.env.scope.names.lookup x = some .local := by rfl) (hy : X.env.scope.names.lookup y = some .local := by rfl) (hc : X.calm = true := by rfl)
    (h1 : starEach [a, b] X.env = (false, eval a X.env) :: starEach [b] X.env := by rfl) (h2 : starEach [b] X.env = (false, eval b X.env) :: starEach [] X.env := by rfl)
    (hw : swappedStores [.Tuple [.Name x px, .Name y py] kt pt] (.Tuple [a, b] k2 pt2) X.env = pure (some [x, y]) := by rfl)
    (hs : swapsWithSole [.Tuple [.Name x px, .Name y py] kt pt] (.Tuple [a, b] k2 pt2) pos.line X.env = pure false := by rfl) :
    SV (ρ := ρ) X sl sl' kr (.Assign [.Tuple [.Name x px, .Name y py] kt pt] (.Tuple [a, b] k2 pt2) pos) (fun g => (fa g).bind fun t => (fb g).bind fun u => some (.nx (set g t u))) :=
  PS.imp (ps_par hc hN hi hj hij hx hy (pa_cons ha (pa_cons hb pa_nil h2) h1) hw hs) fun D σ H ⟨γ, S0, S, o, E, hf, p⟩ => by
    obtain ⟨t, u, e1, e2, e3⟩ := bind2 hf
    cases e3
    refine ⟨γ, S0, S, t, E, e1, fun v H1 s1 r1 => ⟨γ, S0, S, u, E.same s1, e2, fun w H2 s2 r2 => ⟨v, w, rfl, ?_⟩⟩⟩
    refine p _ _ S ?_ (.same (s1.trans s2))
    rw [h]
    exact (((E.same s1).same s2).seta (Rp.mv (.same s2) _ _ r1)).seta r2

/-! ### what is walked -/
def ItOk [Enc ι] (K : PySem.W.Frag) (S0 S : Ad) (kd : Kd) (J : It) (H1 : Hp) (xs : List ι) : Prop :=
  ∀ (S2 : Ad) (H2 : Hp), Mv S H1 S2 H2 → (kd = .b → Same H1 H2) → (∀ a, un S2 S0 a → H2 a ≠ none) →
    (∀ i, xs.length ≤ i → J.stop i H2) ∧ ∀ i x, xs[i]? = some x → J.go i H2 ∧ ∀ v H3, J.yld i H2 v H3 → Same H2 H3 ∧ Rp K H3 (un S2 S0) (enc x) v
def tI [Enc ι] (K : PySem.W.Frag) (sl : Γ → Sl) (kd : Kd) (f : Γ → Option (List ι)) : TI := fun σ H R =>
  ∃ (g : Γ) (S0 S : Ad) (xs : List ι), EnvS K S0 S H (sl g) σ ∧ f g = some xs ∧ ∀ J H', Same H H' → ItOk K S0 S kd J H' xs → R J H'
def IV [Enc ι] (X : Cx) (sl : Γ → Sl) (kd : Kd) (tg it : Expr) (f : Γ → Option (List ι)) : Prop := PI X tg it (tI X.K sl kd f)
theorem IV.ab [Enc ι] {tg it : Expr} {f : Γ → Option (List ι)} (h : IV X sl .a tg it f) : IV X sl .b tg it f := PI.imp h fun σ H R ⟨g, S0, S, xs, E, hf, q⟩ =>
  ⟨g, S0, S, xs, E, hf, fun J H' s ok => q J H' s fun S2 H2 m _ d => ok S2 H2 m (fun z => nomatch z) d⟩
theorem ok_list [Enc ι] {K : PySem.W.Frag} {S0 S : Ad} {H1 : Hp} {xs : List ι} {a : Addr} {vs : List V} {kd : Kd} (h : ∀ S2 H2, Mv S H1 S2 H2 → (kd = .b → Same H1 H2) → SqL K H2 a vs) (r : RpA K H1 (un S S0) (xs.map enc) vs) : ItOk K S0 S kd (Itl K a) H1 xs := by
  intro S2 H2 m s d
  have h2 := h S2 H2 m s
  have r2 := r.mv m.un
  refine ⟨fun i hi => ⟨vs, h2, by rw [map_len r2]; exact hi⟩, fun i x hx => ?_⟩
  obtain ⟨v, e1, e2⟩ := map_get r2 hx
  refine ⟨⟨vs, v, h2, e1⟩, fun w H3 hy => ?_⟩
  obtain ⟨rfl, hy⟩ := hy
  have e3 := hy vs h2
  rw [e1] at e3
  cases e3
  exact ⟨Same.refl _, e2⟩
theorem piv_list [Enc ι] {tg : Expr} {f : Γ → Option (List ι)} (h : PV X sl .a e f) : IV X sl .a tg e f := PI.imp (pi_list h) fun σ H R ⟨g, S0, S, xs, E, hf, q⟩ => by
  refine ⟨g, S0, S, xs, E, hf, fun v H1 s1 r1 => ?_⟩
  obtain ⟨a, vs, rfl, h1, h2⟩ := r1
  exact ⟨a, rfl, ⟨vs, h1.sq⟩, q _ H1 s1 (ok_list (fun S2 H2 m _ => (h1.mv m.un).sq) h2)⟩
theorem sq_same {K : PySem.W.Frag} {H H' : Hp} {a : Addr} {xs : List V} (s : Same H H') (h : SqL K H a xs) : SqL K H' a xs := s.seq h
theorem piv_listb [Enc ι] {tg : Expr} {f : Γ → Option (List ι)} (h : PV X sl .b e f) : IV X sl .b tg e f := PI.imp (pi_list h) fun σ H R ⟨g, S0, S, xs, E, hf, q⟩ => by
  refine ⟨g, S0, S, xs, E, hf, fun v H1 s1 r1 => ?_⟩
  obtain ⟨a, vs, rfl, h1, h2⟩ := rb_l r1
  exact ⟨a, rfl, ⟨vs, h1⟩, q _ H1 s1 (ok_list (fun S2 H2 _ s => sq_same (s rfl) h1) h2)⟩
/-- lo, lo + 1, .. -/
def rng (lo : Int) (n : Nat) : List Int := (List.range n).map fun i : Nat => lo + i
theorem rng_len {lo : Int} {n : Nat} : (rng lo n).length = n := by unfold rng; simp
theorem rng_get {lo : Int} {n i : Nat} {x : Int} (h : (rng lo n)[i]? = some x) : i < n ∧ x = lo + i := by
  unfold rng at h
  rw [List.getElem?_map] at h
  by_cases hi : i < n
  · rw [List.getElem?_range hi] at h
    exact ⟨hi, (Option.some.inj h).symm⟩
  · rw [List.getElem?_eq_none (by simpa using hi)] at h
    cases h
theorem ok_rng {K : PySem.W.Frag} {S0 S : Ad} {H1 : Hp} {kd : Kd} {lo : Int} {n : Nat} : ItOk K S0 S kd (Itr lo n) H1 (rng lo n) := by
  intro S2 H2 m s d
  refine ⟨fun i hi => by rw [rng_len] at hi; exact hi, fun i x hx => ?_⟩
  obtain ⟨h1, rfl⟩ := rng_get hx
  refine ⟨h1, fun v H3 hy => ?_⟩
  obtain ⟨rfl, rfl⟩ := hy
  exact ⟨Same.refl _, rfl⟩
def inR (j : Int) : Prop := -(2 ^ 62) ≤ j ∧ j < 2 ^ 62
instance (j : Int) : Decidable (inR j) := by unfold inR; exact inferInstance
def rng1 (j : Int) : Option (List Int) := if inR j then some (rng 0 j.toNat) else none
def rng2 (i j : Int) : Option (List Int) := if inR i ∧ inR j then some (rng i (j - i).toNat) else none
section
variable {p : Pos} {fa fb : Γ → Option Int} {tg : Expr}
theorem piv_range1 (hg : Gl X "range") (hm : X.mg "range" = none) (ha : PV X sl .b a fa) (hs : starEach [a] X.env = [(false, eval a X.env)] := by rfl) : IV X sl .a tg (.Call (.Name "range" p) [a] [] pos) (fun s => (fa s).bind fun j => rng1 j) :=
  PI.imp (pi_range1 hg hm (pa_cons ha pa_nil hs) hs) fun σ H R ⟨g, S0, S, xs, E, hf, q⟩ => by
    obtain ⟨j, e1, e2⟩ := bind1 hf
    obtain ⟨h1, rfl⟩ := if_some e2
    refine ⟨g, S0, S, j, E, e1, fun v H1 s1 r1 => ⟨j, by rw [rb_i r1], h1.1, h1.2, q _ H1 s1 ok_rng⟩⟩
theorem piv_range2 (hg : Gl X "range") (hm : X.mg "range" = none) (ha : PV X sl .b a fa) (hb : PV X sl .b b fb) (hs : starEach [a, b] X.env = [(false, eval a X.env), (false, eval b X.env)] := by rfl) (hs2 : starEach [b] X.env = [(false, eval b X.env)] := by rfl) :
    IV X sl .a tg (.Call (.Name "range" p) [a, b] [] pos) (fun s => (fa s).bind fun i => (fb s).bind fun j => rng2 i j) :=
  PI.imp (pi_range2 hg hm (pa_cons ha (pa_cons hb pa_nil hs2) (by rw [hs, hs2])) hs hs2) fun σ H R ⟨g, S0, S, xs, E, hf, q⟩ => by
    obtain ⟨i, j, e1, e2, e3⟩ := bind2 hf
    obtain ⟨⟨h1, h2⟩, rfl⟩ := if_some e3
    exact ⟨g, S0, S, i, E, e1, fun v H1 s1 r1 => ⟨g, S0, S, j, E.same s1, e2, fun w H2 s2 r2 => ⟨i, j, by rw [rb_i r1, rb_i r2], ⟨h1.1, h1.2, h2.1, h2.2⟩, q _ H2 (s1.trans s2) ok_rng⟩⟩⟩
end
theorem piv_enum [Enc τ] {elts : List Expr} {kk : Nat} {p tpos : Pos} {f : Γ → Option (List τ)} (hg : Gl X "enumerate") (hm : X.mg "enumerate" = none) (ha : PV X sl .a a f) (hs : starEach [a] X.env = [(false, eval a X.env)] := by rfl) :
    IV X sl .a (.Tuple elts kk tpos) (.Call (.Name "enumerate" p) [a] [] pos) (fun s => (f s).bind fun l => some (l.zipIdx.map fun q => T2.mk (q.2 : Int) q.1)) :=
  PI.imp (pi_enum hg hm (pa_cons ha pa_nil hs) hs) fun σ H R ⟨g, S0, S, xs, E, hf, q⟩ => by
    obtain ⟨l, e1, e2⟩ := bind1 hf
    cases e2
    refine ⟨g, S0, S, l, E, e1, fun v H1 s1 r1 => ?_⟩
    obtain ⟨a, vs, rfl, h1, h2⟩ := r1
    refine ⟨a, vs, rfl, h1.sq, q _ H1 s1 fun S2 H2 m s d => ?_⟩
    have h3 := (h1.mv m.un).sq
    have r2 : RpA X.K H2 (un S2 S0) (l.map enc) vs := RpA.mv m.un _ _ h2
    refine ⟨fun i hi => ⟨vs, h3, by rw [map_len r2]; simpa using hi⟩, fun i x hx => ?_⟩
    obtain ⟨y, hy, rfl⟩ : ∃ y, l[i]? = some y ∧ x = T2.mk (i : Int) y := by
      rw [List.getElem?_map, List.getElem?_zipIdx] at hx
      cases h : l[i]? with
      | none => rw [h] at hx; cases hx
      | some y => rw [h] at hx; cases hx; exact ⟨y, rfl, by simp⟩
    obtain ⟨v, g1, g2⟩ := map_get r2 hy
    refine ⟨⟨vs, v, h3, g1⟩, fun w H3 hy => ?_⟩
    obtain ⟨T, z, rfl, hT, rfl, hz⟩ := hy
    have e3 := hz vs h3
    rw [g1] at e3
    cases e3
    exact ⟨same_new hT, rp_newT d hT ⟨_, _, rfl, rfl, .one g2⟩⟩
theorem piv_zip [Enc α] [Enc β] {elts : List Expr} {kk : Nat} {p tpos : Pos} {fa : Γ → Option (List α)} {fb : Γ → Option (List β)} (hg : Gl X "zip") (hm : X.mg "zip" = none) (ha : PV X sl .a a fa) (hb : PV X sl .a b fb)
    (hs : starEach [a, b] X.env = (false, eval a X.env) :: starEach [b] X.env := by rfl) (hs2 : starEach [b] X.env = (false, eval b X.env) :: starEach [] X.env := by rfl) (hpl : (backTo pos (starEach [b] X.env)).any (·.1) = false := by rfl) :
    IV X sl .a (.Tuple elts kk tpos) (.Call (.Name "zip" p) [a, b] [] pos) (fun s => (fa s).bind fun l => (fb s).bind fun r => some (List.zipWith T2.mk l r)) :=
  PI.imp (pi_zip hg hm (pa_cons ha (pa_cons hb pa_nil hs2) hs) hs hpl) fun σ H R ⟨g, S0, S, xs, E, hf, q⟩ => by
    obtain ⟨l, r, e1, e2, e3⟩ := bind2 hf
    cases e3
    refine ⟨g, S0, S, l, E, e1, fun v H1 s1 r1 => ⟨g, S0, S, r, E.same s1, e2, fun w H2 s2 r2 => ?_⟩⟩
    have r1 := Rp.mv (.same s2) _ _ r1
    obtain ⟨a, vs, rfl, h1, h2⟩ := r1
    obtain ⟨b, ws, rfl, h3, h4⟩ := r2
    refine ⟨a, b, vs, ws, rfl, h1.sq, h3.sq, q _ H2 (s1.trans s2) fun S2 H3 m s d => ?_⟩
    have g1 := (h1.mv m.un).sq
    have g3 := (h3.mv m.un).sq
    have g2 : RpA X.K H3 (un S2 S0) (l.map enc) vs := RpA.mv m.un _ _ h2
    have g4 : RpA X.K H3 (un S2 S0) (r.map enc) ws := RpA.mv m.un _ _ h4
    refine ⟨fun i hi => ⟨vs, ws, g1, g3, by rw [map_len g2, map_len g4]; rw [List.length_zipWith] at hi; omega⟩, fun i x hx => ?_⟩
    rw [List.getElem?_zipWith] at hx
    cases hl : l[i]? with
    | none => rw [hl] at hx; cases hx
    | some y =>
      cases hr : r[i]? with
      | none => rw [hl, hr] at hx; cases hx
      | some z =>
        rw [hl, hr] at hx
        cases hx
        obtain ⟨v, j1, j2⟩ := map_get g2 hl
        obtain ⟨w, j3, j4⟩ := map_get g4 hr
        refine ⟨⟨vs, ws, v, w, g1, g3, j1, j3⟩, fun u H4 hy => ?_⟩
        obtain ⟨T, y', z', rfl, hT, rfl, hy, hz⟩ := hy
        have e3 := hy vs g1
        have e4 := hz ws g3
        rw [j1] at e3
        rw [j3] at e4
        cases e3; cases e4
        exact ⟨same_new hT, rp_newT d hT ⟨_, _, rfl, j2, .one j4⟩⟩
theorem piv_str {tg : Expr} {f : Γ → Option Tx} (h : PV X sl .b e f) : IV X sl .a tg e (fun s => (f s).bind fun t => some (t.cs.map fun c => (⟨[c]⟩ : Tx))) := PI.imp (pi_str h) fun σ H R ⟨g, S0, S, xs, E, hf, q⟩ => by
  obtain ⟨t, e1, e2⟩ := bind1 hf
  cases e2
  refine ⟨g, S0, S, t, E, e1, fun v H1 s1 r1 => ⟨_, rb_t r1, q _ H1 s1 fun S2 H2 m s d => ?_⟩⟩
  refine ⟨fun i hi => by show Array.size _ ≤ i; simpa using hi, fun i x hx => ?_⟩
  rw [List.getElem?_map] at hx
  cases hc : t.cs[i]? with
  | none => rw [hc] at hx; cases hx
  | some c =>
    rw [hc] at hx
    cases hx
    obtain ⟨hl, _⟩ := List.getElem?_eq_some_iff.mp hc
    refine ⟨by show i < Array.size _; simpa using hl, fun v H3 hy => ?_⟩
    obtain ⟨rfl, c', hc', rfl⟩ := hy
    have e3 : t.cs[i]? = some c' := by simpa using hc'
    rw [hc] at e3
    cases e3
    exact ⟨Same.refl _, rfl⟩

/-! ### for -/
def forO (set : Γ → ι → Γb) (b : Γb → Option (Out Γ ρ)) : List ι → Γ → Option (Out Γ ρ)
  | [], g => some (.nx g)
  | x :: xs, g => seqO (b (set g x)) (forO set b xs)
theorem sv_for [Enc ρ] [Enc ι] {tg : Expr} {fi : Γ → Option (List ι)} {set : Γ → ι → Γb} {js : List Nat} {f : Γb → Option (Out Γ ρ)} (hp : PassesOwn (model X.prog X.w) X.A X.env X.xe) (hi : IV X sl .a tg e fi) (hg : GV X sl slb tg set js) (hb : BV X slb sl kr sts f) (hc : X.calm = true := by rfl)
    (hs : ∀ x, foldedSetIterable e X.env x = pure x := by intro _; rfl) : SV X sl sl kr (.For tg e sts [] pos) (fun g => (fi g).bind fun xs => forO set f xs g) :=
  PS.imp (ps_for hp hc hi hg hb hs) fun D σ H ⟨γ, S0, S, o, E, hf, p⟩ => by
    obtain ⟨xs, e1, e2⟩ := bind1 hf
    refine ⟨γ, S0, S, xs, E, e1, fun J H1 s1 ok => ?_⟩
    refine ⟨fun i m σ2 H2 => ∃ g2 S2, EnvS X.K S0 S2 H2 (sl g2) σ2 ∧ Mv S H1 S2 H2 ∧ i + m = xs.length ∧ forO set f (xs.drop i) g2 = some o ∧ Post X.K S0 S2 H2 sl kr D o,
      ⟨xs.length, γ, S, E.same s1, .refl, Nat.zero_add _, e2, p.back (.same s1)⟩, ?_⟩
    rintro i m σ2 H2 ⟨g2, S2, E2, mv, him, h2, p2⟩
    obtain ⟨hstop, hgo⟩ := ok S2 H2 mv (fun z => nomatch z) E2.dT
    cases hx : xs[i]? with
    | none =>
      have hi : xs.length ≤ i := List.getElem?_eq_none_iff.mp hx
      rw [List.drop_of_length_le hi] at h2
      cases h2
      exact .inl ⟨hstop i hi, p2 σ2 H2 S2 E2 .refl⟩
    | some x =>
      obtain ⟨hi, ex⟩ := List.getElem?_eq_some_iff.mp hx
      obtain ⟨hg1, hy⟩ := hgo i x hx
      rw [List.drop_eq_getElem_cons hi, ex] at h2
      obtain ⟨o1, e3, e4⟩ := bind1 (show seqO (f (set g2 x)) (forO set f (xs.drop (i + 1))) = some o from h2)
      refine .inr ⟨hg1, fun σ' H' => ∃ g' S', EnvS X.K S0 S' H' (sl g') σ' ∧ Mv S H1 S' H' ∧ forO set f (xs.drop (i + 1)) g' = some o ∧ Post X.K S0 S' H' sl kr D o, fun σ' H' ⟨g', S', q1, q2, q3, q4⟩ => ⟨m - 1, by omega, g', S', q1, q2, by omega, q3, q4⟩, fun v H3 yl => ?_⟩
      obtain ⟨s3, r3⟩ := hy v H3 yl
      refine ⟨g2, S0, S2, x, E2.same s3, r3, fun σ3 E3 _ => ⟨_, S0, S2, o1, E3, e3, ?_⟩⟩
      have p3 : Post X.K S0 S2 H3 sl kr D o := p2.back (.same s3)
      have mv3 : Mv S H1 S2 H3 := mv.trans (.same s3)
      cases o1 with
      | nx g' => exact fun σ' H' S' E' m' => ⟨g', S', E', mv3.trans m', e4, p3.back m'⟩
      | rt r =>
        cases e4
        exact p3

/-! ### comprehensions -/
def tBs (K : PySem.W.Frag) (sl : Γ → Sl) (f : Γ → Option Bool) : TT := tB K sl f
def PBs (X : Cx) (sl : Γ → Sl) (ifs : List Expr) (f : Γ → Option Bool) : Prop := PTs X ifs (tB X.K sl f)
theorem pbs_nil : PBs X sl [] (fun _ => some true) := PTs.imp pts_nil fun σ H Q ⟨g, S0, S, t, E, hf, q⟩ => by
  cases hf
  exact q H (Same.refl H)
theorem pbs_one {f : Γ → Option Bool} (h : PB X sl e f) : PBs X sl [e] f := PTs.imp (pts_one h) fun σ H Q h => h
def compO (t : Γb → Option Bool) (f : Γb → Option τ) (set : ι → Γb) : List ι → Option (List τ)
  | [] => some []
  | x :: xs => (t (set x)).bind fun c => if c = true then (f (set x)).bind fun y => (compO t f set xs).bind fun ys => some (y :: ys) else compO t f set xs
/-- within a comprehension what is owned is borrowed -/
def toB : Option (Mo × PyData) → Option (Mo × PyData)
  | some (.o, d) => some (.b, d)
  | x => x
def wipeB (l : Sl) (vs : List Nat) : Sl := wipeS (l.map toB) vs
theorem toB_get {l : Sl} {i : Nat} {m : Mo} {d : PyData} (h : (l.map toB)[i]? = some (some (m, d))) : (l[i]? = some (some (m, d)) ∧ m ≠ .o) ∨ (m = .b ∧ l[i]? = some (some (.o, d))) := by
  rw [List.getElem?_map] at h
  cases e : l[i]? with
  | none => rw [e] at h; cases h
  | some x =>
    rw [e] at h
    cases x with
    | none => cases h
    | some y =>
      obtain ⟨m', d'⟩ := y
      cases m' with
      | a => cases h; exact .inl ⟨rfl, nofun⟩
      | b => cases h; exact .inl ⟨rfl, nofun⟩
      | o => cases h; exact .inr ⟨rfl, rfl⟩
def isA (p : Addr) : Ad := fun a => a = p
/-- into a comprehension whose list is at D -/
theorem EnvS.into {K : PySem.W.Frag} {S0 S : Ad} {H H' : Hp} {l : Sl} {σ : L2.St} {p : Addr} (E : EnvS K S0 S H l σ) (s : Same H H') (hp : H p = none) (hp' : H' p ≠ none) (vs : List Nat) : EnvS K (un S S0) (isA p) H' (wipeB l vs) (L2.wipe σ vs) := by
  have mv : Mv (un S S0) H (un (isA p) (un S S0)) H' := fun a o h n => ⟨s a o h, fun z => z.elim (ne_of_none h hp) n⟩
  have top : ∀ {a : Addr} {u : HO}, Rd H a u → Rd H' a u ∧ ¬ isA p a := fun {a u} h => by
    rcases h with h | ⟨o, h⟩
    · exact ⟨.inl (s _ _ h), ne_of_none h hp⟩
    · exact ⟨.inr ⟨o, s _ _ h⟩, ne_of_none h hp⟩
  have noO : ∀ {i : Nat} {d : PyData}, (l.map toB)[i]? ≠ some (some (.o, d)) := fun h => by
    rcases toB_get h with ⟨_, z⟩ | ⟨z, _⟩
    · exact z rfl
    · cases z
  refine ⟨by unfold wipeB; rw [wipeS_len, wipe_length, List.length_map]; exact E.len, fun a h => ?_, fun a h => nn_same s (E.dT a h), fun a h z => ?_, fun i m d h => ?_, fun i j d e v hij hi hj hv => ?_⟩
  · have h : a = p := h
    rw [h]; exact hp'
  · have h : a = p := h
    rw [h] at z
    exact E.dT p z hp
  · obtain ⟨h1, h2⟩ := wipeS_get h
    rw [wipe_out h2]
    rcases toB_get h1 with ⟨h3, h4⟩ | ⟨rfl, h3⟩
    · obtain ⟨v, h5, h6⟩ := E.at_ i m d h3
      refine ⟨v, h5, ?_⟩
      cases m with
      | a => exact Rp.mv mv _ _ h6
      | b =>
        rcases h6 with h6 | ⟨ds, a, xs, e1, e2, e3, e4⟩ | ⟨ds, a, xs, e1, e2, e3, e4⟩
        · exact .inl (Rp.mv mv _ _ h6)
        · exact .inr (.inl ⟨ds, a, xs, e1, e2, top e3.1, e4.mv mv⟩)
        · exact .inr (.inr ⟨ds, a, xs, e1, e2, top e3.1, e4.mv mv⟩)
      | o => exact absurd rfl h4
    · obtain ⟨v, h5, a, rfl, h6, h7⟩ := E.at_ i _ d h3
      refine ⟨_, h5, ?_⟩
      rcases h7 with ⟨ds, xs, e1, e2, e3⟩ | ⟨ds, xs, e1, e2, e3⟩
      · exact .inr (.inl ⟨ds, a, xs, e1, rfl, top (.inl e2), e3.mv mv⟩)
      · exact .inr (.inr ⟨ds, a, xs, e1, rfl, top (.inl e2), e3.mv mv⟩)
  · exact absurd (wipeS_get hi).1 noO
/-- the list under construction grows -/
theorem EnvS.upA {K : PySem.W.Frag} {S0 : Ad} {H : Hp} {l : Sl} {σ : L2.St} {p : Addr} {u : HO} (E : EnvS K S0 (isA p) H l σ) (nq : ∀ (i : Nat) (d : PyData), l[i]? ≠ some (some (.o, d))) : EnvS K S0 (isA p) (upd H p u) l σ := by
  have mv : Mv (isA p) H (isA p) (upd H p u) := fun a o h n => ⟨by rw [upd_ne n]; exact h, n⟩
  have nn : ∀ b, H b ≠ none → upd H p u b ≠ none := fun b h => by
    by_cases hb : b = p
    · subst hb; rw [upd_same]; simp
    · rw [upd_ne hb]; exact h
  refine ⟨E.len, fun a h => nn a (E.dS a h), fun a h => nn a (E.d0 a h), E.ap, fun i m d h => ?_, E.one⟩
  obtain ⟨v, h1, h2⟩ := E.at_ i m d h
  refine ⟨v, h1, ?_⟩
  cases m with
  | a => exact Rp.mv mv.un _ _ h2
  | b => exact Rbs.mv mv h2
  | o => exact absurd h (nq i d)
theorem EnvS.wipeB {K : PySem.W.Frag} {S0 S : Ad} {H : Hp} {l : Sl} {σ : L2.St} (E : EnvS K S0 S H l σ) (vs : List Nat) (nq : ∀ (i : Nat) (d : PyData), l[i]? ≠ some (some (.o, d))) : EnvS K S0 S H (PL.wipeB l vs) (L2.wipe σ vs) := by
  have e : l.map toB = l := by
    apply List.ext_getElem?
    intro i
    rw [List.getElem?_map]
    cases h : l[i]? with
    | none => rfl
    | some x =>
      cases x with
      | none => rfl
      | some y =>
        obtain ⟨m, d⟩ := y
        cases m with
        | a => rfl
        | b => rfl
        | o => exact absurd h (nq i d)
  unfold PL.wipeB
  rw [e]
  exact E.wipe vs
theorem compO_len {t : Γb → Option Bool} {f : Γb → Option τ} {set : ι → Γb} : ∀ {xs : List ι} {ys : List τ}, compO t f set xs = some ys → ys.length ≤ xs.length
  | [], ys, h => by cases h; exact Nat.le_refl _
  | x :: xs, ys, h => by
    obtain ⟨c, h1, h2⟩ := bind1 h
    cases c with
    | true =>
      obtain ⟨y, zs, h3, h4, h5⟩ := bind2 (show ((f (set x)).bind fun y => (compO t f set xs).bind fun ys => some (y :: ys)) = some ys from h2)
      cases h5
      exact Nat.succ_le_succ (compO_len h4)
    | false => exact Nat.le_succ_of_le (compO_len (show compO t f set xs = some ys from h2))
theorem lc_read [Enc ι] [Enc τ] {K : PySem.W.Frag} {vs : List Nat} {fi : Γ → Option (List ι)} {set : Γ → ι → Γb} {js : List Nat} {ft : Γb → Option Bool} {fe : Γb → Option τ} (hj : ∀ i ∈ js, i ∈ vs) {σ : L2.St} {H : Hp} {Q : VK}
    (h : tD K sl .f (fun g => (fi g).bind fun xs => (lNew xs).bind fun xs => compO ft fe (set g) xs) σ H Q) : tLc (tI K sl .b fi) (tG K (fun g => wipeB (sl g) vs) slb set js) (tB K slb ft) (tD K slb .a fe) vs σ H Q := by
  obtain ⟨γ, S0, S, r, E, hf, q⟩ := h
  obtain ⟨xs, e1, e2⟩ := bind1 hf
  obtain ⟨xs', e3, e4⟩ := bind1 e2
  obtain ⟨hz, rfl⟩ := if_some e3
  refine ⟨γ, S0, S, xs, E, e1, fun J H1 s1 ok => fun D hD => ?_⟩
  have E1 := E.same s1
  have mvD : ∀ H2, Same H1 H2 → Mv S H1 (wi S D) H2 := fun H2 s2 => fun a o h n => ⟨s2 a o h, fun z => z.elim n (ne_of_none h hD)⟩
  have hT : ∀ a, wi (un S S0) D a → un (isA D) (un S S0) a := fun a z => z.elim .inr .inl
  have hT2 : ∀ a, un (isA D) (un S S0) a → un (wi S D) S0 a := fun a z => by
    rcases z with z | z | z
    · exact .inl (.inr z)
    · exact .inl (.inl z)
    · exact .inr z
  refine ⟨fun i m H2 => Same H1 H2 ∧ i + m = xs.length ∧ ∃ (done : List τ) (acc : List V) (rest : List τ), H2 D = some (.lst acc) ∧ RpA K H2 (wi (un S S0) D) (done.map enc) acc ∧ done.length ≤ i ∧ compO ft fe (set γ) (xs.drop i) = some rest ∧ done ++ rest = r,
    ⟨xs.length, same_new hD, Nat.zero_add _, [], [], r, upd_same, rfl, Nat.le_refl _, e4, rfl⟩, ?_⟩
  rintro i m H2 ⟨s2, him, done, acc, rest, hacc, hrp, hdl, hrest, hr⟩
  have E2 := E1.into s2 hD (by rw [hacc]; simp) vs
  obtain ⟨hstop, hgo⟩ := ok (wi S D) H2 (mvD H2 s2) (fun _ => s2) (fun a z => E2.dT a (by
    rcases z with (z | z) | z
    · exact .inr (.inl z)
    · exact .inl z
    · exact .inr (.inr z)))
  cases hx : xs[i]? with
  | none =>
    have hi : xs.length ≤ i := List.getElem?_eq_none_iff.mp hx
    rw [List.drop_of_length_le hi] at hrest
    cases hrest
    rw [List.append_nil] at hr
    subst hr
    refine .inl ⟨hstop i hi, q _ H2 (s1.trans s2) ⟨D, rfl, s1.free hD, .inl ⟨_, acc, rfl, hacc, hrp⟩⟩⟩
  | some x =>
    obtain ⟨hi, ex⟩ := List.getElem?_eq_some_iff.mp hx
    obtain ⟨hg1, hy⟩ := hgo i x hx
    rw [List.drop_eq_getElem_cons hi, ex] at hrest
    obtain ⟨cnd, h3, h4⟩ := bind1 hrest
    refine .inr ⟨hg1, fun H' => Same H1 H' ∧ ∃ (done : List τ) (acc : List V) (rest : List τ), H' D = some (.lst acc) ∧ RpA K H' (wi (un S S0) D) (done.map enc) acc ∧ done.length ≤ i + 1 ∧ compO ft fe (set γ) (xs.drop (i + 1)) = some rest ∧ done ++ rest = r, fun H' h => ⟨m - 1, by omega, h.1, by omega, h.2⟩, fun v H3 yl => ?_⟩
    obtain ⟨s3, r3⟩ := hy v H3 yl
    refine ⟨γ, un S S0, isA D, x, E2.same s3, Rp.mv (.less hT2) _ _ r3, fun σ3 E3 hw => ⟨?_, ?_⟩⟩
    · rw [hw _ hj, wipe_wipe]
    · refine ⟨_, un S S0, isA D, cnd, E3, h3, fun H4 s4 => ?_⟩
      have s34 := s3.trans s4
      have hD4 : H4 D = some (.lst acc) := s34 _ _ hacc
      have hrp4 : RpA K H4 (wi (un S S0) D) (done.map enc) acc := hrp.mv (.same s34)
      cases cnd with
      | false => exact iteF ⟨s2.trans s34, done, acc, rest, hD4, hrp4, Nat.le_succ_of_le hdl, h4, hr⟩
      | true =>
        obtain ⟨y, ys, h5, h6, h7⟩ := bind2 (show ((fe (set γ x)).bind fun y => (compO ft fe (set γ) (xs.drop (i + 1))).bind fun ys => some (y :: ys)) = some rest from h4)
        cases h7
        refine iteT ⟨_, un S S0, isA D, y, E3.same s4, h5, fun w H5 s5 r5 => ?_⟩
        have hD5 : H5 D = some (.lst acc) := s5 _ _ hD4
        have hrp5 : RpA K H5 (wi (un S S0) D) (done.map enc) acc := hrp4.mv (.same s5)
        refine ⟨acc, hD5, by rw [map_len hrp5]; omega, ?_⟩
        have mv5 : Mv (wi (un S S0) D) H5 (wi (un S S0) D) (upd H5 D (.lst (acc ++ [w]))) := fun a o h n => ⟨by rw [upd_ne fun z => n (.inr z)]; exact h, n⟩
        refine ⟨fun a o h => ?_, done ++ [y], acc ++ [w], ys, upd_same, ?_, by rw [List.length_append]; exact Nat.succ_le_succ hdl, h6, by rw [List.append_assoc]; exact hr⟩
        · rw [upd_ne (ne_of_none h hD)]
          exact (s2.trans (s34.trans s5)) a o h
        · rw [List.map_append]
          exact (hrp5.mv mv5).append (.one (Rp.mv ((Mv.less hT).trans mv5) _ _ r5))
section
variable [Enc ι] [Enc τ] {elt tg iter : Expr} {ifs : List Expr} {scope : Scope} {own : List (Str × Nat)} {fi : Γ → Option (List ι)} {set : Γ → ι → Γb} {js : List Nat} {ft : Γb → Option Bool} {fe : Γb → Option τ}
theorem pv_lc (hN : X.N.Nodup)
    (hi : IV X sl .b tg iter fi) (ok : BlkOk X.N X.env.scope scope own) (hj : ∀ i ∈ js, i ∈ own.map (·.2))
    (hg : ∀ (s : Shared) (H : Hp) (C : Addr) (cl : List (Str × Addr)) (fp : List Addr), GV (X.blk s H scope (compEnvC scope cl C X.env) fp) (fun g => wipeB (sl g) (own.map (·.2))) slb tg set js)
    (ht : ∀ (s : Shared) (H : Hp) (C : Addr) (cl : List (Str × Addr)) (fp : List Addr), PBs (X.blk s H scope (compEnvC scope cl C X.env) fp) slb ifs ft)
    (he : ∀ (s : Shared) (H : Hp) (C : Addr) (cl : List (Str × Addr)) (fp : List Addr), PV (X.blk s H scope (compEnvC scope cl C X.env) fp) slb .a elt fe) (hc : X.calm = true := by rfl) (hs : ∀ x, foldedSetIterable iter X.env x = pure x := by intro _; rfl) :
    PV X sl .f (.ListComp elt [⟨tg, iter, ifs, 0⟩] scope pos) (fun g => (fi g).bind fun xs => (lNew xs).bind fun xs => compO ft fe (set g) xs) :=
  PE.imp (pe_lc (g := tG X.K (fun g => wipeB (sl g) (own.map fun q : Str × Nat => q.2)) slb set js) (tt := tB X.K slb ft) (te := tD X.K slb .a fe) hc hN hi ok hg ht he hs) fun σ H Q h => lc_read hj h
variable [Enc ρ] {i : Nat} {y : Str} {py spos : Pos}
/-- y = [..] on one line, y owned; y shared -/
theorem sv_ownLc (st : Γ → List τ → Γ') (h : ∀ g t, sl' (st g t) = (sl g).set i (some (.o, enc t))) (hN : X.N.Nodup)
    (hi : IV X sl .b tg iter fi) (ok : BlkOk X.N X.env.scope scope own) (hj : ∀ i ∈ js, i ∈ own.map (·.2))
    (hg : ∀ (s : Shared) (H : Hp) (C : Addr) (cl : List (Str × Addr)) (fp : List Addr), GV (X.blk s H scope (compEnvC scope cl C X.env) fp) (fun g => wipeB (sl g) (own.map (·.2))) slb tg set js)
    (ht : ∀ (s : Shared) (H : Hp) (C : Addr) (cl : List (Str × Addr)) (fp : List Addr), PBs (X.blk s H scope (compEnvC scope cl C X.env) fp) slb ifs ft)
    (he : ∀ (s : Shared) (H : Hp) (C : Addr) (cl : List (Str × Addr)) (fp : List Addr), PV (X.blk s H scope (compEnvC scope cl C X.env) fp) slb .a elt fe)
    (hy : X.N[i]? = some y := by rfl) (hyl : X.env.scope.names.lookup y = some .local := by rfl)
    (hsw : swapsWith (.ListComp elt [⟨tg, iter, ifs, 0⟩] scope pos) (some (.Name y py)) spos.line X.env = pure true := by exact sw_true rfl rfl rfl (by decide +kernel)) (hc : X.calm = true := by rfl) (hs : ∀ x, foldedSetIterable iter X.env x = pure x := by intro _; rfl) :
    SV (ρ := ρ) X sl sl' kr (.Assign [.Name y py] (.ListComp elt [⟨tg, iter, ifs, 0⟩] scope pos) spos) (fun g => ((fi g).bind fun xs => (lNew xs).bind fun xs => compO ft fe (set g) xs).bind fun t => some (.nx (st g t))) :=
  PS.imp (ps_setLc (g := tG X.K (fun g => wipeB (sl g) (own.map fun q : Str × Nat => q.2)) slb set js) (tt := tB X.K slb ft) (te := tD X.K slb .a fe) hc hN hy hyl hsw hi ok hg ht he hs) fun D σ H ⟨γ, S0, S, o, E, hf, p⟩ => by
    obtain ⟨t, e1, e2⟩ := bind1 hf
    cases e2
    refine lc_read hj ⟨γ, S0, S, t, E, e1, fun v H' s r => ?_⟩
    obtain ⟨S', m, E'⟩ := E.seto (i := i) s r
    refine p _ _ S' ?_ m
    rw [h]
    exact E'
theorem sv_setLc (st : Γ → List τ → Γ') (h : ∀ g t, sl' (st g t) = (sl g).set i (some (.a, enc t))) (hN : X.N.Nodup)
    (hi : IV X sl .b tg iter fi) (ok : BlkOk X.N X.env.scope scope own) (hj : ∀ i ∈ js, i ∈ own.map (·.2))
    (hg : ∀ (s : Shared) (H : Hp) (C : Addr) (cl : List (Str × Addr)) (fp : List Addr), GV (X.blk s H scope (compEnvC scope cl C X.env) fp) (fun g => wipeB (sl g) (own.map (·.2))) slb tg set js)
    (ht : ∀ (s : Shared) (H : Hp) (C : Addr) (cl : List (Str × Addr)) (fp : List Addr), PBs (X.blk s H scope (compEnvC scope cl C X.env) fp) slb ifs ft)
    (he : ∀ (s : Shared) (H : Hp) (C : Addr) (cl : List (Str × Addr)) (fp : List Addr), PV (X.blk s H scope (compEnvC scope cl C X.env) fp) slb .a elt fe)
    (hy : X.N[i]? = some y := by rfl) (hyl : X.env.scope.names.lookup y = some .local := by rfl)
    (hsw : swapsWith (.ListComp elt [⟨tg, iter, ifs, 0⟩] scope pos) (some (.Name y py)) spos.line X.env = pure true := by exact sw_true rfl rfl rfl (by decide +kernel)) (hc : X.calm = true := by rfl) (hs : ∀ x, foldedSetIterable iter X.env x = pure x := by intro _; rfl) :
    SV (ρ := ρ) X sl sl' kr (.Assign [.Name y py] (.ListComp elt [⟨tg, iter, ifs, 0⟩] scope pos) spos) (fun g => ((fi g).bind fun xs => (lNew xs).bind fun xs => compO ft fe (set g) xs).bind fun t => some (.nx (st g t))) :=
  PS.imp (ps_setLc (g := tG X.K (fun g => wipeB (sl g) (own.map fun q : Str × Nat => q.2)) slb set js) (tt := tB X.K slb ft) (te := tD X.K slb .a fe) hc hN hy hyl hsw hi ok hg ht he hs) fun D σ H ⟨γ, S0, S, o, E, hf, p⟩ => by
    obtain ⟨t, e1, e2⟩ := bind1 hf
    cases e2
    refine lc_read hj ⟨γ, S0, S, t, E, e1, fun v H' s r => ?_⟩
    refine p _ _ S ?_ (.same s)
    rw [h]
    exact (E.same s).seta (Fr.rp r E.dT)
end
/-! ### two clauses -/
def compO2 {Γc : Type} {κ : Type} (t : Γb → Option Bool) (it1 : Γb → Option (List κ)) (t1 : Γc → Option Bool) (f : Γc → Option τ) (set : ι → Γb) (set1 : Γb → κ → Γc) : List ι → Option (List τ)
  | [] => some []
  | x :: xs => (t (set x)).bind fun c => if c = true then (it1 (set x)).bind fun ys => (compO t1 f (set1 (set x)) ys).bind fun zs => (compO2 t it1 t1 f set set1 xs).bind fun r => some (zs ++ r) else compO2 t it1 t1 f set set1 xs
theorem lc2_read {κ : Type} [Enc ι] [Enc κ] [Enc τ] {K : PySem.W.Frag} {vs vs1 : List Nat} {fi : Γ → Option (List ι)} {set : Γ → ι → Γb} {js js1 : List Nat} {ft : Γb → Option Bool} {fi1 : Γb → Option (List κ)} {set1 : Γb → κ → Γc} {ft1 : Γc → Option Bool} {fe : Γc → Option τ} (hj : ∀ i ∈ js, i ∈ vs) (hj1 : ∀ i ∈ js1, i ∈ vs1) (hno : ∀ (g : Γb) (i : Nat) (d : PyData), (slb g)[i]? ≠ some (some (.o, d))) {σ : L2.St} {H : Hp} {Q : VK}
    (h : tD K sl .f (fun g => ((fi g).bind fun xs => compO2 ft fi1 ft1 fe (set g) set1 xs).bind fun r => lNew r) σ H Q) :
    tLc2 (tI K sl .b fi) (tG K (fun g => wipeB (sl g) vs) slb set js) (tB K slb ft) (tI K slb .a fi1) (tG K (fun g => wipeB (slb g) vs1) slc set1 js1) (tB K slc ft1) (tD K slc .a fe) vs vs1 σ H Q := by
  obtain ⟨γ, S0, S, r, E, hf, q⟩ := h
  obtain ⟨r', e0, e9⟩ := bind1 hf
  obtain ⟨hz, rfl⟩ := if_some e9
  obtain ⟨xs, e1, e4⟩ := bind1 e0
  refine ⟨γ, S0, S, xs, E, e1, fun J H1 s1 ok => fun D hD => ?_⟩
  have E1 := E.same s1
  have mvD : ∀ H2, Same H1 H2 → Mv S H1 (wi S D) H2 := fun H2 s2 => fun a o h n => ⟨s2 a o h, fun z => z.elim n (ne_of_none h hD)⟩
  have hT : ∀ a, wi (un S S0) D a → un (isA D) (un S S0) a := fun a z => z.elim .inr .inl
  have hT2 : ∀ a, un (isA D) (un S S0) a → un (wi S D) S0 a := fun a z => by
    rcases z with z | z | z
    · exact .inl (.inr z)
    · exact .inl (.inl z)
    · exact .inr z
  refine ⟨fun i m H2 => Same H1 H2 ∧ i + m = xs.length ∧ ∃ (done : List τ) (acc : List V) (rest : List τ), H2 D = some (.lst acc) ∧ RpA K H2 (wi (un S S0) D) (done.map enc) acc ∧ compO2 ft fi1 ft1 fe (set γ) set1 (xs.drop i) = some rest ∧ done ++ rest = r',
    ⟨xs.length, same_new hD, Nat.zero_add _, [], [], r', upd_same, rfl, e4, rfl⟩, ?_⟩
  rintro i m H2 ⟨s2, him, done, acc, rest, hacc, hrp, hrest, hr⟩
  have E2 := E1.into s2 hD (by rw [hacc]; simp) vs
  obtain ⟨hstop, hgo⟩ := ok (wi S D) H2 (mvD H2 s2) (fun _ => s2) (fun a z => E2.dT a (by
    rcases z with (z | z) | z
    · exact .inr (.inl z)
    · exact .inl z
    · exact .inr (.inr z)))
  cases hx : xs[i]? with
  | none =>
    have hi : xs.length ≤ i := List.getElem?_eq_none_iff.mp hx
    rw [List.drop_of_length_le hi] at hrest
    cases hrest
    rw [List.append_nil] at hr
    subst hr
    refine .inl ⟨hstop i hi, q _ H2 (s1.trans s2) ⟨D, rfl, s1.free hD, .inl ⟨_, acc, rfl, hacc, hrp⟩⟩⟩
  | some x =>
    obtain ⟨hi, ex⟩ := List.getElem?_eq_some_iff.mp hx
    obtain ⟨hg1, hy⟩ := hgo i x hx
    rw [List.drop_eq_getElem_cons hi, ex] at hrest
    obtain ⟨cnd, h3, h4⟩ := bind1 hrest
    refine .inr ⟨hg1, fun H' => Same H1 H' ∧ ∃ (done : List τ) (acc : List V) (rest : List τ), H' D = some (.lst acc) ∧ RpA K H' (wi (un S S0) D) (done.map enc) acc ∧ compO2 ft fi1 ft1 fe (set γ) set1 (xs.drop (i + 1)) = some rest ∧ done ++ rest = r', fun H' h => ⟨m - 1, by omega, h.1, by omega, h.2⟩, fun v H3 yl => ?_⟩
    obtain ⟨s3, r3⟩ := hy v H3 yl
    refine ⟨γ, un S S0, isA D, x, E2.same s3, Rp.mv (.less hT2) _ _ r3, fun σ3 E3 hw => ⟨?_, ?_⟩⟩
    · rw [hw _ hj, wipe_wipe]
    · refine ⟨_, un S S0, isA D, cnd, E3, h3, fun H4 s4 => ?_⟩
      have s34 := s3.trans s4
      have hD4 : H4 D = some (.lst acc) := s34 _ _ hacc
      have hrp4 : RpA K H4 (wi (un S S0) D) (done.map enc) acc := hrp.mv (.same s34)
      cases cnd with
      | false => exact iteF ⟨s2.trans s34, done, acc, rest, hD4, hrp4, h4, hr⟩
      | true =>
        obtain ⟨ys, h5, h4⟩ := bind1 (show ((fi1 (set γ x)).bind fun ys => (compO ft1 fe (set1 (set γ x)) ys).bind fun zs => (compO2 ft fi1 ft1 fe (set γ) set1 (xs.drop (i + 1))).bind fun r => some (zs ++ r)) = some rest from h4)
        obtain ⟨zs, rr, h6, h8, h9⟩ := bind2 h4
        cases h9
        refine iteT ⟨_, un S S0, isA D, ys, E3.same s4, h5, fun J1 H5 s5 ok1 => ?_⟩
        have hD5 : H5 D = some (.lst acc) := s5 _ _ hD4
        have hrp5 : RpA K H5 (wi (un S S0) D) (done.map enc) acc := hrp4.mv (.same s5)
        have E5 := (E3.same s4).same s5
        have s15 : Same H1 H5 := s2.trans (s34.trans s5)
        -- the inner walk: H5 and what D grew by
        refine ⟨fun j m H6 => Mv (isA D) H5 (isA D) H6 ∧ Same H1 H6 ∧ (∀ a, H5 a ≠ none → H6 a ≠ none) ∧ j + m = ys.length ∧ ∃ (dn : List τ) (ac : List V) (rs : List τ), H6 D = some (.lst ac) ∧ RpA K H6 (wi (un S S0) D) (dn.map enc) ac ∧ compO ft1 fe (set1 (set γ x)) (ys.drop j) = some rs ∧ dn ++ rs ++ rr = r' ∧ EnvS K (un S S0) (isA D) H6 (slb (set γ x)) σ3,
          ⟨ys.length, .refl, s15, fun _ z => z, Nat.zero_add _, done, acc, zs, hD5, hrp5, h6, by rw [List.append_assoc]; exact hr, E5⟩, ?_⟩
        rintro j m1 H6 ⟨mv6, s6, nn6, hjm, dn, ac, rs, hD6, hrp6, hrs, hr6, E6⟩
        obtain ⟨hstop1, hgo1⟩ := ok1 (isA D) H6 mv6 (fun z => nomatch z) E6.dT
        cases hy1 : ys[j]? with
        | none =>
          have hi1 : ys.length ≤ j := List.getElem?_eq_none_iff.mp hy1
          rw [List.drop_of_length_le hi1] at hrs
          cases hrs
          exact .inl ⟨hstop1 j hi1, s6, dn, ac, rr, hD6, hrp6, h8, by rw [List.append_nil] at hr6; exact hr6⟩
        | some y =>
          obtain ⟨hi1, ey⟩ := List.getElem?_eq_some_iff.mp hy1
          obtain ⟨hg2, hy2⟩ := hgo1 j y hy1
          rw [List.drop_eq_getElem_cons hi1, ey] at hrs
          obtain ⟨cn1, k3, k4⟩ := bind1 hrs
          refine .inr ⟨hg2, fun H' => Mv (isA D) H5 (isA D) H' ∧ Same H1 H' ∧ (∀ a, H5 a ≠ none → H' a ≠ none) ∧ ∃ (dn : List τ) (ac : List V) (rs : List τ), H' D = some (.lst ac) ∧ RpA K H' (wi (un S S0) D) (dn.map enc) ac ∧ compO ft1 fe (set1 (set γ x)) (ys.drop (j + 1)) = some rs ∧ dn ++ rs ++ rr = r' ∧ EnvS K (un S S0) (isA D) H' (slb (set γ x)) σ3, fun H' h => ⟨m1 - 1, by omega, h.1, h.2.1, h.2.2.1, by omega, h.2.2.2⟩, fun v H7 yl => ?_⟩
          obtain ⟨s7, r7⟩ := hy2 v H7 yl
          have E7 := E6.same s7
          refine ⟨_, un S S0, isA D, y, E7.wipeB vs1 (hno _), r7, fun σ8 E8 hw1 => ⟨?_, ?_⟩⟩
          · rw [hw1 _ hj1, wipe_wipe]
          · refine ⟨_, un S S0, isA D, cn1, E8, k3, fun H8 s8 => ?_⟩
            have s78 := s7.trans s8
            have hD8 : H8 D = some (.lst ac) := s78 _ _ hD6
            have hrp8 : RpA K H8 (wi (un S S0) D) (dn.map enc) ac := hrp6.mv (.same s78)
            cases cn1 with
            | false => exact iteF ⟨mv6.trans (.same s78), s6.trans s78, fun a z => nn_same s78 (nn6 a z), dn, ac, rs, hD8, hrp8, k4, hr6, E6.same s78⟩
            | true =>
              obtain ⟨t, ts, k5, k6, k7⟩ := bind2 (show ((fe (set1 (set γ x) y)).bind fun y => (compO ft1 fe (set1 (set γ x)) (ys.drop (j + 1))).bind fun ys => some (y :: ys)) = some rs from k4)
              cases k7
              refine iteT ⟨_, un S S0, isA D, t, E8.same s8, k5, fun u H9 s9 r9 => ?_⟩
              have s69 := s78.trans s9
              have hD9 : H9 D = some (.lst ac) := s9 _ _ hD8
              have hrp9 : RpA K H9 (wi (un S S0) D) (dn.map enc) ac := hrp8.mv (.same s9)
              refine ⟨ac, hD9, ?_, ?_⟩
              · rw [map_len hrp9]
                have : r'.length ≤ sizeLine := hz
                rw [← hr6] at this
                simp only [List.length_append, List.length_cons] at this
                omega
              · have mvA : Mv (wi (un S S0) D) H9 (wi (un S S0) D) (upd H9 D (.lst (ac ++ [u]))) := fun a o h n => ⟨by rw [upd_ne fun z => n (.inr z)]; exact h, n⟩
                have mvB : Mv (isA D) H9 (isA D) (upd H9 D (.lst (ac ++ [u]))) := fun a o h n => ⟨by rw [upd_ne n]; exact h, n⟩
                have s1' : Same H1 (upd H9 D (.lst (ac ++ [u]))) := fun a o h => by
                  rw [upd_ne (ne_of_none h hD)]
                  exact (s6.trans s69) a o h
                refine ⟨(mv6.trans (.same s69)).trans mvB, s1', fun a z => ?_, dn ++ [t], ac ++ [u], ts, upd_same, ?_, k6, by simpa using hr6, ?_⟩
                · by_cases ha : a = D
                  · subst ha; rw [upd_same]; simp
                  · rw [upd_ne ha]; exact nn_same s69 (nn6 a z)
                · rw [List.map_append]
                  exact (hrp9.mv mvA).append (.one (Rp.mv ((Mv.less hT).trans mvA) _ _ r9))
                · exact (E6.same s69).upA (hno _)
end PL

/-! PL8: defs and their calls. -/
namespace PL
open PySem PySem.Spec L2
open Enc (enc)

variable {Γ Γ' Γ'' ρ τ α β A B : Type} {X : Cx} {sl : Γ → Sl} {sl' : Γ' → Sl} {e : Expr} {es : List Expr} {k1 : Kd} {pos : Pos} {kr : Kd}

/-- a def's promise: the plain function F of its arguments; sl0 tells the arguments' slots -/
def spF [Enc ρ] (K : PySem.W.Frag) (N : List Str) (n : Nat) (sl0 : A → Sl) (kr : Kd) (F : A → Option ρ) : Sp := fun vs H Q _ =>
  vs.length = n ∧ ∃ (g : A) (S0 : Ad) (r : ρ), EnvS K S0 no H (sl0 g) (L2.start N vs) ∧ F g = some r ∧ ∀ v H', RetV kr K S0 no H H' (enc r) v → Q v H'
/-- what a body's plain reading gives its caller -/
def outF (d : Option ρ) (x : Option (Out Γ ρ)) : Option ρ := x.bind fun o => match o with
  | .rt r => some r
  | .nx _ => d
section
variable {P : Program} {w : World} {K : PySem.W.Frag} {mg : Str → Option Value} {base : Heap}
theorem fn_v [Enc ρ] {x qual : Str} {st : Stmt} {f : Addr} {fd : FuncData} {N ps : List Str} {k n : Nat} {sl0 : A → Sl} {slE : Γ → Sl} {fb : A → Option (Out Γ ρ)} {F : A → Option ρ} (dn : Option ρ) (Fn : Fun K x qual st f fd) (S : FnScope N ps (defScope st)) (hn : ps.length = n := by rfl)
    (hdn : ∀ r, dn = some r → enc r = .none) (hk : kr = .a ∨ kr = .f ∧ dn = none)
    (hF : ∀ g, F g = outF dn (fb g))
    (hb : ∀ (cdv : Value) (A : Around) (outer : List Env) (s : Shared) (H : Hp) (E : XK), Room k (A.deeper (PyProof.Rows.envOfC qual (defScope st) s.heap.objs.size f cdv)) →
      BV (cxOf CX0 P w K mg base N qual (defScope st) f cdv A outer s H E).nox sl0 slE kr (defBody st) fb) :
    FnOk P w K mg base CX0 (k + 1) f fd ps (spF K N n sl0 kr F) := by
  refine Fn.ok S (fun vs H Q E h => h.1.trans hn.symm) fun cdv A outer s H vs Q E hr h => ?_
  obtain ⟨hl, g, S0, r, En, hFr, q⟩ := h
  refine ⟨_, hb cdv A outer s H E hr, ?_⟩
  rw [hF] at hFr
  obtain ⟨o, h1, h2⟩ := bind1 hFr
  refine ⟨g, S0, no, o, En, h1, ?_⟩
  cases o with
  | rt r' =>
    cases h2
    exact q
  | nx g' =>
    have h2 : dn = some r := h2
    rcases hk with rfl | ⟨_, e⟩
    · exact fun σ' H' S' _ m => q .non H' ⟨m.no, by rw [hdn r h2]; rfl⟩
    · rw [e] at h2; cases h2
/-- a def that is never called with arguments for which F is told -/
theorem fn_none [Enc ρ] {f : Addr} {fd : FuncData} {N ps : List Str} {k n : Nat} {sl0 : A → Sl} {CX : CXT} (hn : ps.length = n := by rfl) : FnOk P w K mg base CX k f fd ps (spF K N n sl0 kr (fun _ : A => (none : Option ρ))) :=
  ⟨fun vs H Q E h => h.1.trans hn.symm, fun A outer s H args us vs Q E _ _ _ _ h => by
    obtain ⟨_, _, _, _, _, h, _⟩ := h
    cases h⟩
end

/-! ### arguments -/
def ArgV (K : PySem.W.Frag) (H : Hp) (T : Ad) : Mo → PyData → V → Prop
  | .a, d, v => Rp K H T d v
  | .b, d, v => Rb K H T d v
  | .o, _, _ => False
def ArgsR (K : PySem.W.Frag) (H : Hp) (T : Ad) : List Mo → List PyData → List V → Prop
  | [], [], [] => True
  | m :: ms, d :: ds, v :: vs => ArgV K H T m d v ∧ ArgsR K H T ms ds vs
  | _, _, _ => False
theorem ArgV.same {K : PySem.W.Frag} {H H' : Hp} {T : Ad} {m : Mo} {d : PyData} {v : V} (s : Same H H') (h : ArgV K H T m d v) : ArgV K H' T m d v := by
  cases m with
  | a => exact Rp.mv (.same s) _ _ h
  | b => exact Rb.mv (.same s) h s
  | o => exact h
def slOf : List Mo → List PyData → Sl
  | m :: ms, d :: ds => some (m, d) :: slOf ms ds
  | _, _ => []
theorem env_start {K : PySem.W.Frag} {H : Hp} {T : Ad} {ms : List Mo} {ds : List PyData} {vs : List V} {N : List Str} {j : Nat} (h : ArgsR K H T ms ds vs) (hT : ∀ a, T a → H a ≠ none) (hN : N.length = ms.length + j) :
    EnvS K T no H (slOf ms ds ++ List.replicate j none) (L2.start N vs) ∧ vs.length = ms.length := by
  have len : ∀ {ms : List Mo} {ds : List PyData} {vs : List V}, ArgsR K H T ms ds vs → vs.length = ms.length ∧ (slOf ms ds).length = ms.length := by
    intro ms
    induction ms with
    | nil =>
      intro ds vs h
      cases ds <;> cases vs <;> simp [ArgsR] at h
      exact ⟨rfl, rfl⟩
    | cons m ms ih =>
      intro ds vs h
      cases ds with
      | nil => simp [ArgsR] at h
      | cons d ds =>
        cases vs with
        | nil => simp [ArgsR] at h
        | cons v vs =>
          obtain ⟨h1, h2⟩ := ih h.2
          exact ⟨by simp [h1], by simp [slOf, h2]⟩
  have get : ∀ {ms : List Mo} {ds : List PyData} {vs : List V} {i : Nat} {m : Mo} {d : PyData}, ArgsR K H T ms ds vs → (slOf ms ds)[i]? = some (some (m, d)) → ∃ v, vs[i]? = some v ∧ ArgV K H T m d v := by
    intro ms
    induction ms with
    | nil => intro ds vs i m d h e; simp [slOf] at e
    | cons m0 ms ih =>
      intro ds vs i m d h e
      cases ds with
      | nil => simp [ArgsR] at h
      | cons d0 ds =>
        cases vs with
        | nil => simp [ArgsR] at h
        | cons v vs =>
          cases i with
          | zero =>
            have e : some (some (m0, d0)) = some (some (m, d)) := e
            cases e
            exact ⟨v, rfl, h.1⟩
          | succ i => exact ih (ds := ds) (vs := vs) (i := i) h.2 e
  obtain ⟨l1, l2⟩ := len h
  have at2 : ∀ {i : Nat} {m : Mo} {d : PyData}, (slOf ms ds ++ List.replicate j none)[i]? = some (some (m, d)) → ∃ v, (L2.start N vs)[i]? = some (some v) ∧ ArgV K H T m d v := fun {i m d} e => by
    by_cases hi : i < (slOf ms ds).length
    · rw [List.getElem?_append_left hi] at e
      obtain ⟨v, h1, h2⟩ := get h e
      refine ⟨v, ?_, h2⟩
      unfold L2.start
      rw [List.getElem?_append_left (by simp; omega), List.getElem?_map, h1]
      rfl
    · rw [List.getElem?_append_right (by omega), List.getElem?_replicate] at e
      split at e <;> cases e
  have hno : ∀ {d : PyData} {v : V}, Rp K H T d v → Rp K H (un no T) d v := fun h => Rp.mv (.less fun a z => z.elim False.elim id) _ _ h
  have hnoA : ∀ {d : List PyData} {v : List V}, RpA K H T d v → RpA K H (un no T) d v := fun h => RpA.mv (.less fun a z => z.elim False.elim id) _ _ h
  have hnoK : ∀ {d : List (PyData × PyData)} {v : List (Key × V)}, RpK K H T d v → RpK K H (un no T) d v := fun h => RpK.mv (.less fun a z => z.elim False.elim id) _ _ h
  refine ⟨⟨?_, fun a z => z.elim, hT, fun a z => z.elim, fun i m d e => ?_, fun i i' d d' v _ e _ _ => ?_⟩, l1⟩
  · unfold L2.start
    simp
    omega
  · obtain ⟨v, h1, h2⟩ := at2 e
    refine ⟨v, h1, ?_⟩
    cases m with
    | a => exact hno h2
    | b =>
      rcases h2 with h2 | ⟨ds, a, xs, e1, e2, e3, e4⟩ | ⟨ds, a, xs, e1, e2, e3, e4⟩
      · exact .inl (hno h2)
      · exact .inr (.inl ⟨ds, a, xs, e1, e2, ⟨e3, fun z => z⟩, hnoA e4⟩)
      · exact .inr (.inr ⟨ds, a, xs, e1, e2, ⟨e3, fun z => z⟩, hnoK e4⟩)
    | o => exact h2.elim
  · obtain ⟨_, _, h2⟩ := at2 e
    exact h2.elim
def tAg (K : PySem.W.Frag) (sl : Γ → Sl) (ms : List Mo) (en : A → List PyData) (f : Γ → Option A) : TA := fun σ H Q =>
  ∃ (g : Γ) (S0 S : Ad) (t : A), EnvS K S0 S H (sl g) σ ∧ f g = some t ∧ ∀ vs H', Same H H' → ArgsR K H' (un S S0) ms (en t) vs → Q vs H'
def AV (X : Cx) (sl : Γ → Sl) (ms : List Mo) (es : List Expr) (en : A → List PyData) (f : Γ → Option A) : Prop := PA X es (tAg X.K sl ms en f)
theorem ArgsR.same {K : PySem.W.Frag} {H H' : Hp} {T : Ad} (s : Same H H') : ∀ {ms : List Mo} {ds : List PyData} {vs : List V}, ArgsR K H T ms ds vs → ArgsR K H' T ms ds vs
  | [], [], [], h => h
  | m :: ms, d :: ds, v :: vs, h => ⟨h.1.same s, ArgsR.same s h.2⟩
theorem av_nil : AV X sl [] [] (fun _ : Unit => []) (fun _ => some ()) := PA.imp pa_nil fun σ H Q ⟨g, S0, S, t, E, hf, q⟩ => q [] H (Same.refl H) trivial
section
variable [Enc τ] {f : Γ → Option τ} {g : Γ → Option A} {ms : List Mo} {en : A → List PyData}
theorem av_a (h : PV X sl .a e f) (hr : AV X sl ms es en g) (hs : starEach (e :: es) X.env = (false, eval e X.env) :: starEach es X.env := by rfl) :
    AV X sl (.a :: ms) (e :: es) (fun t : τ × A => enc t.1 :: en t.2) (fun s => (f s).bind fun x => (g s).bind fun r => some (x, r)) := PA.imp (pa_cons h hr hs) fun σ H Q ⟨γ, S0, S, t, E, hf, q⟩ => by
  obtain ⟨x, r, h1, h2, h3⟩ := bind2 hf
  cases h3
  exact ⟨γ, S0, S, x, E, h1, fun v H1 s1 r1 => ⟨γ, S0, S, r, E.same s1, h2, fun vs H2 s2 r2 => q _ H2 (s1.trans s2) ⟨ArgV.same (m := .a) s2 r1, r2⟩⟩⟩
theorem av_b (h : PV X sl .b e f) (hr : AV X sl ms es en g) (hs : starEach (e :: es) X.env = (false, eval e X.env) :: starEach es X.env := by rfl) :
    AV X sl (.b :: ms) (e :: es) (fun t : τ × A => enc t.1 :: en t.2) (fun s => (f s).bind fun x => (g s).bind fun r => some (x, r)) := PA.imp (pa_cons h hr hs) fun σ H Q ⟨γ, S0, S, t, E, hf, q⟩ => by
  obtain ⟨x, r, h1, h2, h3⟩ := bind2 hf
  cases h3
  exact ⟨γ, S0, S, x, E, h1, fun v H1 s1 r1 => ⟨γ, S0, S, r, E.same s1, h2, fun vs H2 s2 r2 => q _ H2 (s1.trans s2) ⟨ArgV.same (m := .b) s2 r1, r2⟩⟩⟩
end
section
variable [Enc ρ] {k n : Nat} {f : Addr} {fd : FuncData} {ps N : List Str} {x : Str} {p : Pos} {F : A → Option ρ} {sl0 : A → Sl} {g : Γ → Option A} {ms : List Mo} {en : A → List PyData}
theorem ret_a {K : PySem.W.Frag} {T : Ad} {H H' : Hp} {d : PyData} {v : V} (h : RetV .a K T no H H' d v) : Same H H' ∧ Rp K H' T d v := ⟨fun a o e => (h.1 a o e (fun z => z)).1, h.2⟩
theorem ret_f {K : PySem.W.Frag} {T : Ad} {H H' : Hp} {d : PyData} {v : V} (h : RetV .f K T no H H' d v) : Same H H' ∧ Fr K H H' T d v := by
  refine ⟨fun a o e => (h.1 a o e (fun z => z)).1, ?_⟩
  obtain ⟨p, rfl, h1, h2, h3⟩ := h.2
  refine ⟨p, rfl, ?_, h3⟩
  cases hq : H p with
  | none => rfl
  | some o => exact (h1 (by rw [hq]; simp)).elim
theorem pv_calla (G : FnOk X.prog X.w X.K X.mg X.base CX0 k f fd ps (spF X.K N n sl0 .a F)) (hr : Room k X.A) (hg : Gl X x) (hm : X.mg x = some (.ref f)) (hk : PySem.W.keepIn X.K (.ref f) = true) (hb : Binds X.K fd ps []) (ha : AV X sl ms (e :: es) en g)
    (h0 : ∀ t, ∃ j, sl0 t = slOf ms (en t) ++ List.replicate j none ∧ N.length = ms.length + j) (hn : ms.length = n := by rfl) (hdb : (x == ("__debug__" : Str)) = false := by decide)
    (he : starEach (e :: es) X.env = (false, eval e X.env) :: starEach es X.env := by rfl) (hpl : (backTo pos (starEach es X.env)).any (·.1) = false := by rfl) :
    PV X sl .a (.Call (.Name x p) (e :: es) [] pos) (fun s => (g s).bind fun t => F t) := PE.imp (pe_call (E := E0) G hr hg hm hk hb .nil pass0 ha hdb he hpl) fun σ H Q ⟨γ, S0, S, r, E, hf, q⟩ => by
  obtain ⟨t, h1, h2⟩ := bind1 hf
  refine ⟨γ, S0, S, t, E, h1, fun vs H1 s1 r1 => ?_⟩
  obtain ⟨j, e1, e2⟩ := h0 t
  obtain ⟨E2, hl⟩ := env_start r1 (E.same s1).dT e2
  rw [List.append_nil]
  refine ⟨hl.trans hn, t, _, r, by rw [e1]; exact E2, h2, fun v H' rv => ?_⟩
  obtain ⟨s2, r2⟩ := ret_a rv
  exact q v H' (s1.trans s2) r2
theorem pv_callf (G : FnOk X.prog X.w X.K X.mg X.base CX0 k f fd ps (spF X.K N n sl0 .f F)) (hr : Room k X.A) (hg : Gl X x) (hm : X.mg x = some (.ref f)) (hk : PySem.W.keepIn X.K (.ref f) = true) (hb : Binds X.K fd ps []) (ha : AV X sl ms (e :: es) en g)
    (h0 : ∀ t, ∃ j, sl0 t = slOf ms (en t) ++ List.replicate j none ∧ N.length = ms.length + j) (hn : ms.length = n := by rfl) (hdb : (x == ("__debug__" : Str)) = false := by decide)
    (he : starEach (e :: es) X.env = (false, eval e X.env) :: starEach es X.env := by rfl) (hpl : (backTo pos (starEach es X.env)).any (·.1) = false := by rfl) :
    PV X sl .f (.Call (.Name x p) (e :: es) [] pos) (fun s => (g s).bind fun t => F t) := PE.imp (pe_call (E := E0) G hr hg hm hk hb .nil pass0 ha hdb he hpl) fun σ H Q ⟨γ, S0, S, r, E, hf, q⟩ => by
  obtain ⟨t, h1, h2⟩ := bind1 hf
  refine ⟨γ, S0, S, t, E, h1, fun vs H1 s1 r1 => ?_⟩
  obtain ⟨j, e1, e2⟩ := h0 t
  obtain ⟨E2, hl⟩ := env_start r1 (E.same s1).dT e2
  rw [List.append_nil]
  refine ⟨hl.trans hn, t, _, r, by rw [e1]; exact E2, h2, fun v H' rv => ?_⟩
  obtain ⟨s2, r2⟩ := ret_f rv
  exact q v H' (s1.trans s2) (r2.back s1)
theorem pv_call0 {F : Unit → Option ρ} {sl0 : Unit → Sl} (G : FnOk X.prog X.w X.K X.mg X.base CX0 k f fd ps (spF X.K N 0 sl0 .a F)) (hr : Room k X.A) (hg : Gl X x) (hm : X.mg x = some (.ref f)) (hk : PySem.W.keepIn X.K (.ref f) = true) (hb : Binds X.K fd ps [])
    (h0 : ∃ j, sl0 () = List.replicate j none ∧ N.length = j) (hdb : (x == ("__debug__" : Str)) = false := by decide) :
    PV X sl .a (.Call (.Name x p) [] [] pos) (fun s => F ()) := PE.imp (pe_call0 (E := E0) G hr hg hm hk hb .nil pass0 hdb) fun σ H Q ⟨γ, S0, S, r, E, hf, q⟩ => by
  obtain ⟨j, e1, e2⟩ := h0
  obtain ⟨E2, hl⟩ := env_start (K := X.K) (H := H) (ms := []) (ds := []) (vs := []) (T := un S S0) (j := j) (N := N) trivial E.dT (by rw [e2]; simp)
  refine ⟨rfl, (), _, r, by rw [e1]; exact E2, hf, fun v H' rv => ?_⟩
  obtain ⟨s2, r2⟩ := ret_a rv
  exact q v H' s2 r2
end
/-- more turns than any loop takes -/
def FUEL : Nat := 18446744073709551616
theorem hu64 {k : Nat} {A : Around} (hr : Room k A) : A.units + 64 < cLine := hr.units
theorem hu65 {k : Nat} {A : Around} (hr : Room k A) : A.units + 65 < cLine := by have := hr.un; omega
/-- another type for the same data -/
theorem PV.co [Enc α] [Enc β] {f : Γ → Option α} {k : Kd} (h : α → β) (p : ∀ t, enc (h t) = enc t) (he : PV X sl k e f) : PV X sl k e (fun s => (f s).bind fun t => some (h t)) := PE.imp he fun σ H Q ⟨g, S0, S, t, E, hf, q⟩ => by
  obtain ⟨u, h1, h2⟩ := bind1 hf
  cases h2
  exact ⟨g, S0, S, u, E, h1, fun v H' s r => q v H' s (by rw [p]; exact r)⟩
theorem co_some [Enc α] [Enc β] {h : α → β} (p : ∀ t, enc (h t) = enc t) (t : α) : enc (some (h t)) = enc t := p t
theorem co_map [Enc α] [Enc β] {h : α → β} (p : ∀ t, enc (h t) = enc t) (t : List α) : enc (t.map h) = enc t := by
  show PyData.list _ = PyData.list _
  rw [List.map_map]
  congr 1
  exact List.map_congr_left fun x _ => p x
theorem piv_varb {ι : Type} [Enc ι] {tg : Expr} {i : Nat} {x : Str} (p : Γ → List ι) (h : ∀ g, (sl g)[i]? = some (some (.b, enc (p g)))) (hN : X.N[i]? = some x := by rfl)
    (hv : Vis X.env.scope x := by first | exact Or.inl rfl | exact Or.inr (Or.inl rfl) | exact Or.inr (Or.inr rfl)) (hd : (x == ("__debug__" : Str)) = false := by decide) (hcd : (x == ("__classdict__" : Str)) = false := by decide) :
    IV X sl .a tg (.Name x pos) (fun g => some (p g)) := PI.imp (pi_list (pe_var (i := i) hN hv hd hcd)) fun σ H R ⟨g, S0, S, xs, E, hf, q⟩ => by
  cases hf
  obtain ⟨v, h1, h2⟩ := E.at_ i _ _ (h g)
  refine ⟨v, h1, ?_⟩
  rcases h2 with h2 | ⟨ds, a, vs, e1, rfl, h3, h4⟩ | ⟨_, _, _, e1, _⟩
  · obtain ⟨a, vs, rfl, h3, h4⟩ := h2
    exact ⟨a, rfl, ⟨vs, h3.sq⟩, q _ H (Same.refl H) (ok_list (fun S2 H2 m _ => (h3.mv m.un).sq) h4)⟩
  · cases e1
    exact ⟨a, rfl, ⟨vs, .inl h3.1⟩, q _ H (Same.refl H) (ok_list (fun S2 H2 m _ => .inl (rd_mv m h3).1) h4)⟩
  · cases e1
end PL

/-! PL9: more known functions. -/
namespace PL
open PySem PySem.Spec L2
open Enc (enc)
variable {Γ Γ' Γ'' ρ τ α β γ' A B : Type} {X : Cx} {sl : Γ → Sl} {sl' : Γ' → Sl} {e a b c : Expr} {es : List Expr} {k k1 : Kd} {pos : Pos} {kr : Kd}
theorem pv_gcd' {fa fb : Γ → Option Int} {p : Pos} (hg : Gl X "gcd") (hm : X.mg "gcd" = some (.builtin "math.gcd")) (ha : PV X sl .b a fa) (hb : PV X sl .b b fb) (he : starEach [a, b] X.env = (false, eval a X.env) :: starEach [b] X.env := by rfl) (he2 : starEach [b] X.env = (false, eval b X.env) :: starEach [] X.env := by rfl) (hpl : (backTo pos (starEach [b] X.env)).any (·.1) = false := by rfl) :
    PV X sl .a (.Call (.Name "gcd" p) [a, b] [] pos) (fun s => (fa s).bind fun x => (fb s).bind fun y => some ((Nat.gcd x.natAbs y.natAbs : Nat) : Int)) :=
  pv_c2 (fun h1 h2 => pe_callBfun cr_gcd hg hm (pa_cons h1 (pa_cons h2 pa_nil he2) he) (he := he) (hpl := hpl)) (fun T H x y u w t Q hT r1 r2 e q => by
    cases e
    exact ⟨u, w, by rw [rb_i r1, rb_i r2], q _ H (Same.refl H) rfl⟩) ha hb
/-- a, b, c = x, y, z: three local names -/
theorem sv_par3 [Enc ρ] [Enc α] [Enc β] [Enc γ'] {i j l : Nat} {x y z : Str} {px py pz pt : Pos} {kt k2 : Nat} {pt2 : Pos} {fa : Γ → Option α} {fb : Γ → Option β} {fc : Γ → Option γ'} (set : Γ → α → β → γ' → Γ') (h : ∀ g t u v, sl' (set g t u v) = (((sl g).set i (some (.a, enc t))).set j (some (.a, enc u))).set l (some (.a, enc v)))
    (hN : X.N.Nodup) (ha : PV X sl .a a fa) (hb : PV X sl .a b fb) (hc' : PV X sl .a c fc) (hij : i ≠ j := by decide) (hil : i ≠ l := by decide) (hjl : j ≠ l := by decide) (hi : X.N[i]? = some x := by rfl) (hj : X.N[j]? = some y := by rfl) (hl : X.N[l]? = some z := by rfl)
    (hx : X.env.scope.names.lookup x = some .local := by rfl) (hy : X.env.scope.names.lookup y = some .local := by rfl) (hz : X.env.scope.names.lookup z = some .local := by rfl) (hc : X.calm = true := by rfl)
    (h1 : starEach [a, b, c] X.env = (false, eval a X.env) :: starEach [b, c] X.env := by rfl) (h2 : starEach [b, c] X.env = (false, eval b X.env) :: starEach [c] X.env := by rfl) (h3 : starEach [c] X.env = (false, eval c X.env) :: starEach [] X.env := by rfl)
    (hw : swappedStores [.Tuple [.Name x px, .Name y py, .Name z pz] kt pt] (.Tuple [a, b, c] k2 pt2) X.env = pure (some [x, y, z]) := by rfl)
    (hs : swapsWithSole [.Tuple [.Name x px, .Name y py, .Name z pz] kt pt] (.Tuple [a, b, c] k2 pt2) pos.line X.env = pure false := by rfl) :
    SV (ρ := ρ) X sl sl' kr (.Assign [.Tuple [.Name x px, .Name y py, .Name z pz] kt pt] (.Tuple [a, b, c] k2 pt2) pos) (fun g => (fa g).bind fun t => (fb g).bind fun u => (fc g).bind fun v => some (.nx (set g t u v))) :=
  PS.imp (ps_par3 hc hN hi hj hl hij hil hjl hx hy hz (pa_cons ha (pa_cons hb (pa_cons hc' pa_nil h3) h2) h1) hw hs) fun D σ H ⟨γ, S0, S, o, E, hf, p⟩ => by
    obtain ⟨t, u, e1, e2, e3⟩ := bind2 hf
    obtain ⟨v, e4, e5⟩ := bind1 e3
    cases e5
    refine ⟨γ, S0, S, t, E, e1, fun v1 H1 s1 r1 => ⟨γ, S0, S, u, E.same s1, e2, fun v2 H2 s2 r2 => ⟨γ, S0, S, v, (E.same s1).same s2, e4, fun v3 H3 s3 r3 => ⟨v1, v2, v3, rfl, ?_⟩⟩⟩⟩
    have s23 := s2.trans s3
    refine p _ _ S ?_ (.same (s1.trans s23))
    rw [h]
    exact ((((E.same s1).same s23).seta (Rp.mv (.same s23) _ _ r1)).seta (Rp.mv (.same s3) _ _ r2)).seta r3
/-! ### truth -/
theorem pb_truI {f : Γ → Option Int} (h : PV X sl .b e f) (he : ∀ whole, isTrue e X.env whole = (do let v ← whole; standAt e.pos; holding [v] (truthy v)) := by intro _; rfl) : PB X sl e (fun s => (f s).bind fun x => some (x != 0)) :=
  PT.imp (pt_truth h he) fun σ H Q ⟨γ, S0, S, t, E, hf, q⟩ => by
    obtain ⟨x, e1, e2⟩ := bind1 hf
    cases e2
    exact ⟨γ, S0, S, x, E, e1, fun v H' s r => ⟨_, by rw [rb_i r]; exact rfl, q H' s⟩⟩
theorem pb_truL [Enc τ] {f : Γ → Option (List τ)} (h : PV X sl .b e f) (he : ∀ whole, isTrue e X.env whole = (do let v ← whole; standAt e.pos; holding [v] (truthy v)) := by intro _; rfl) : PB X sl e (fun s => (f s).bind fun x => some (!x.isEmpty)) :=
  PT.imp (pt_truth h he) fun σ H Q ⟨γ, S0, S, t, E, hf, q⟩ => by
    obtain ⟨x, e1, e2⟩ := bind1 hf
    cases e2
    refine ⟨γ, S0, S, x, E, e1, fun v H' s r => ?_⟩
    obtain ⟨p, xs, rfl, h1, h2⟩ := rb_l r
    refine ⟨_, .inl ⟨xs, h1, ?_⟩, q H' s⟩
    have hl := map_len h2
    cases x <;> cases xs <;> simp at hl ⊢
/-! ### texts -/
def tJoin (x : Tx) (ys : List Tx) : Option Tx := if (ys.map fun t => t.cs.length).sum + ys.length * x.cs.length ≤ 16777216 then some ⟨x.cs.intercalate (ys.map fun t => t.cs)⟩ else none

/-! ### comprehensions of two clauses -/
def noO (l : Sl) : Bool := l.all fun x => match x with
  | some (.o, _) => false
  | _ => true
theorem noO_spec {l : Sl} (h : noO l = true) (i : Nat) (d : PyData) : l[i]? ≠ some (some (.o, d)) := fun e => by
  have := List.all_eq_true.mp h _ (List.mem_of_getElem? e)
  cases this
section
variable {Γb Γc ι κ : Type} {slb : Γb → Sl} {slc : Γc → Sl} [Enc ι] [Enc κ] [Enc τ] {elt tg iter tg1 iter1 : Expr} {ifs ifs1 : List Expr} {scope : Scope} {own : List (Str × Nat)} {vs1 : List Nat} {fi : Γ → Option (List ι)} {set : Γ → ι → Γb} {js js1 : List Nat} {ft : Γb → Option Bool} {fi1 : Γb → Option (List κ)} {set1 : Γb → κ → Γc} {ft1 : Γc → Option Bool} {fe : Γc → Option τ}
theorem pv_lc2 (hN : X.N.Nodup)
    (hi : IV X sl .b tg iter fi) (ok : BlkOk X.N X.env.scope scope own) (hj : ∀ i ∈ js, i ∈ own.map (·.2)) (hj1 : ∀ i ∈ js1, i ∈ vs1) (hv : ∀ i ∈ vs1, i ∈ own.map (·.2)) (hno : ∀ g : Γb, noO (slb g) = true)
    (hg : ∀ (s : Shared) (H : Hp) (C : Addr) (cl : List (Str × Addr)) (fp : List Addr), GV (X.blk s H scope (compEnvC scope cl C X.env) fp) (fun g => wipeB (sl g) (own.map (·.2))) slb tg set js)
    (ht : ∀ (s : Shared) (H : Hp) (C : Addr) (cl : List (Str × Addr)) (fp : List Addr), PBs (X.blk s H scope (compEnvC scope cl C X.env) fp) slb ifs ft)
    (hi1 : ∀ (s : Shared) (H : Hp) (C : Addr) (cl : List (Str × Addr)) (fp : List Addr), IV (X.blk s H scope (compEnvC scope cl C X.env) fp) slb .a tg1 iter1 fi1)
    (hg1 : ∀ (s : Shared) (H : Hp) (C : Addr) (cl : List (Str × Addr)) (fp : List Addr), GV (X.blk s H scope (compEnvC scope cl C X.env) fp) (fun g => wipeB (slb g) vs1) slc tg1 set1 js1)
    (ht1 : ∀ (s : Shared) (H : Hp) (C : Addr) (cl : List (Str × Addr)) (fp : List Addr), PBs (X.blk s H scope (compEnvC scope cl C X.env) fp) slc ifs1 ft1)
    (he : ∀ (s : Shared) (H : Hp) (C : Addr) (cl : List (Str × Addr)) (fp : List Addr), PV (X.blk s H scope (compEnvC scope cl C X.env) fp) slc .a elt fe) (hc : X.calm = true := by rfl) (hs : ∀ x, foldedSetIterable iter X.env x = pure x := by intro _; rfl) (hs1 : ∀ env x, foldedSetIterable iter1 env x = pure x := by intro _ _; rfl) :
    PV X sl .f (.ListComp elt [⟨tg, iter, ifs, 0⟩, ⟨tg1, iter1, ifs1, 0⟩] scope pos) (fun g => ((fi g).bind fun xs => compO2 ft fi1 ft1 fe (set g) set1 xs).bind fun r => lNew r) :=
  PE.imp (pe_lc2 (g := tG X.K (fun g => wipeB (sl g) (own.map fun q : Str × Nat => q.2)) slb set js) (tt := tB X.K slb ft) (wi1 := tI X.K slb .a fi1) (g1 := tG X.K (fun g => wipeB (slb g) vs1) slc set1 js1) (tt1 := tB X.K slc ft1) (te := tD X.K slc .a fe) hc hN hi ok hv hg ht hi1 hg1 ht1 he hs hs1) fun σ H Q h => lc2_read hj hj1 (fun g => noO_spec (hno g)) h
variable [Enc ρ] {i : Nat} {y : Str} {py spos : Pos}
theorem sv_ownLc2 (st : Γ → List τ → Γ') (h : ∀ g t, sl' (st g t) = (sl g).set i (some (.o, enc t))) (hN : X.N.Nodup)
    (hi : IV X sl .b tg iter fi) (ok : BlkOk X.N X.env.scope scope own) (hj : ∀ i ∈ js, i ∈ own.map (·.2)) (hj1 : ∀ i ∈ js1, i ∈ vs1) (hv : ∀ i ∈ vs1, i ∈ own.map (·.2)) (hno : ∀ g : Γb, noO (slb g) = true)
    (hg : ∀ (s : Shared) (H : Hp) (C : Addr) (cl : List (Str × Addr)) (fp : List Addr), GV (X.blk s H scope (compEnvC scope cl C X.env) fp) (fun g => wipeB (sl g) (own.map (·.2))) slb tg set js)
    (ht : ∀ (s : Shared) (H : Hp) (C : Addr) (cl : List (Str × Addr)) (fp : List Addr), PBs (X.blk s H scope (compEnvC scope cl C X.env) fp) slb ifs ft)
    (hi1 : ∀ (s : Shared) (H : Hp) (C : Addr) (cl : List (Str × Addr)) (fp : List Addr), IV (X.blk s H scope (compEnvC scope cl C X.env) fp) slb .a tg1 iter1 fi1)
    (hg1 : ∀ (s : Shared) (H : Hp) (C : Addr) (cl : List (Str × Addr)) (fp : List Addr), GV (X.blk s H scope (compEnvC scope cl C X.env) fp) (fun g => wipeB (slb g) vs1) slc tg1 set1 js1)
    (ht1 : ∀ (s : Shared) (H : Hp) (C : Addr) (cl : List (Str × Addr)) (fp : List Addr), PBs (X.blk s H scope (compEnvC scope cl C X.env) fp) slc ifs1 ft1)
    (he : ∀ (s : Shared) (H : Hp) (C : Addr) (cl : List (Str × Addr)) (fp : List Addr), PV (X.blk s H scope (compEnvC scope cl C X.env) fp) slc .a elt fe)
    (hy : X.N[i]? = some y := by rfl) (hyl : X.env.scope.names.lookup y = some .local := by rfl)
    (hsw : swapsWith (.ListComp elt [⟨tg, iter, ifs, 0⟩, ⟨tg1, iter1, ifs1, 0⟩] scope pos) (some (.Name y py)) spos.line X.env = pure true := by exact sw_true rfl rfl rfl (by decide +kernel)) (hc : X.calm = true := by rfl) (hs : ∀ x, foldedSetIterable iter X.env x = pure x := by intro _; rfl) (hs1 : ∀ env x, foldedSetIterable iter1 env x = pure x := by intro _ _; rfl) :
    SV (ρ := ρ) X sl sl' kr (.Assign [.Name y py] (.ListComp elt [⟨tg, iter, ifs, 0⟩, ⟨tg1, iter1, ifs1, 0⟩] scope pos) spos) (fun g => (((fi g).bind fun xs => compO2 ft fi1 ft1 fe (set g) set1 xs).bind fun r => lNew r).bind fun t => some (.nx (st g t))) :=
  PS.imp (ps_setLc2 (g := tG X.K (fun g => wipeB (sl g) (own.map fun q : Str × Nat => q.2)) slb set js) (tt := tB X.K slb ft) (wi1 := tI X.K slb .a fi1) (g1 := tG X.K (fun g => wipeB (slb g) vs1) slc set1 js1) (tt1 := tB X.K slc ft1) (te := tD X.K slc .a fe) hc hN hy hyl hsw hi ok hv hg ht hi1 hg1 ht1 he hs hs1) fun D σ H ⟨γ, S0, S, o, E, hf, p⟩ => by
    obtain ⟨t, e1, e2⟩ := bind1 hf
    cases e2
    refine lc2_read hj hj1 (fun g => noO_spec (hno g)) ⟨γ, S0, S, t, E, e1, fun v H' s r => ?_⟩
    obtain ⟨S', m, E'⟩ := E.seto (i := i) s r
    refine p _ _ S' ?_ m
    rw [h]
    exact E'
theorem sv_setLc2 (st : Γ → List τ → Γ') (h : ∀ g t, sl' (st g t) = (sl g).set i (some (.a, enc t))) (hN : X.N.Nodup)
    (hi : IV X sl .b tg iter fi) (ok : BlkOk X.N X.env.scope scope own) (hj : ∀ i ∈ js, i ∈ own.map (·.2)) (hj1 : ∀ i ∈ js1, i ∈ vs1) (hv : ∀ i ∈ vs1, i ∈ own.map (·.2)) (hno : ∀ g : Γb, noO (slb g) = true)
    (hg : ∀ (s : Shared) (H : Hp) (C : Addr) (cl : List (Str × Addr)) (fp : List Addr), GV (X.blk s H scope (compEnvC scope cl C X.env) fp) (fun g => wipeB (sl g) (own.map (·.2))) slb tg set js)
    (ht : ∀ (s : Shared) (H : Hp) (C : Addr) (cl : List (Str × Addr)) (fp : List Addr), PBs (X.blk s H scope (compEnvC scope cl C X.env) fp) slb ifs ft)
    (hi1 : ∀ (s : Shared) (H : Hp) (C : Addr) (cl : List (Str × Addr)) (fp : List Addr), IV (X.blk s H scope (compEnvC scope cl C X.env) fp) slb .a tg1 iter1 fi1)
    (hg1 : ∀ (s : Shared) (H : Hp) (C : Addr) (cl : List (Str × Addr)) (fp : List Addr), GV (X.blk s H scope (compEnvC scope cl C X.env) fp) (fun g => wipeB (slb g) vs1) slc tg1 set1 js1)
    (ht1 : ∀ (s : Shared) (H : Hp) (C : Addr) (cl : List (Str × Addr)) (fp : List Addr), PBs (X.blk s H scope (compEnvC scope cl C X.env) fp) slc ifs1 ft1)
    (he : ∀ (s : Shared) (H : Hp) (C : Addr) (cl : List (Str × Addr)) (fp : List Addr), PV (X.blk s H scope (compEnvC scope cl C X.env) fp) slc .a elt fe)
    (hy : X.N[i]? = some y := by rfl) (hyl : X.env.scope.names.lookup y = some .local := by rfl)
    (hsw : swapsWith (.ListComp elt [⟨tg, iter, ifs, 0⟩, ⟨tg1, iter1, ifs1, 0⟩] scope pos) (some (.Name y py)) spos.line X.env = pure true := by exact sw_true rfl rfl rfl (by decide +kernel)) (hc : X.calm = true := by rfl) (hs : ∀ x, foldedSetIterable iter X.env x = pure x := by intro _; rfl) (hs1 : ∀ env x, foldedSetIterable iter1 env x = pure x := by intro _ _; rfl) :
    SV (ρ := ρ) X sl sl' kr (.Assign [.Name y py] (.ListComp elt [⟨tg, iter, ifs, 0⟩, ⟨tg1, iter1, ifs1, 0⟩] scope pos) spos) (fun g => (((fi g).bind fun xs => compO2 ft fi1 ft1 fe (set g) set1 xs).bind fun r => lNew r).bind fun t => some (.nx (st g t))) :=
  PS.imp (ps_setLc2 (g := tG X.K (fun g => wipeB (sl g) (own.map fun q : Str × Nat => q.2)) slb set js) (tt := tB X.K slb ft) (wi1 := tI X.K slb .a fi1) (g1 := tG X.K (fun g => wipeB (slb g) vs1) slc set1 js1) (tt1 := tB X.K slc ft1) (te := tD X.K slc .a fe) hc hN hy hyl hsw hi ok hv hg ht hi1 hg1 ht1 he hs hs1) fun D σ H ⟨γ, S0, S, o, E, hf, p⟩ => by
    obtain ⟨t, e1, e2⟩ := bind1 hf
    cases e2
    refine lc2_read hj hj1 (fun g => noO_spec (hno g)) ⟨γ, S0, S, t, E, e1, fun v H' s r => ?_⟩
    refine p _ _ S ?_ (.same s)
    rw [h]
    exact (E.same s).seta (Fr.rp r E.dT)
end

/-- the law's promise at a script -/
theorem sp_law {K : PySem.W.Frag} {H : Hp} {a : Addr} {ns : List Int} {N : List Str} {sl0 : List Int × Unit → Sl} {F : List Int × Unit → Option Bool} {E : XK} {j : Nat} (md : Mo) (hmd : md ≠ .o) (hS : SqL K H a (ns.map V.int)) (hF : F (ns, ()) = some true)
    (h0 : sl0 (ns, ()) = slOf [md] [enc ns] ++ List.replicate j none) (hN : N.length = 1 + j) : spF K N 1 sl0 .a F [.ref a] H (fun v _ => v = .bl true) E := by
  have r : Rp K H no (enc ns) (.ref a) := ⟨a, ns.map V.int, rfl, hS.imp (fun h => ⟨h, fun z => z⟩) id, rpa_ints ns⟩
  have ra : ArgsR K H no [md] [enc ns] [.ref a] := ⟨by
    cases md with
    | a => exact r
    | b => exact .inl r
    | o => exact absurd rfl hmd, trivial⟩
  obtain ⟨En, _⟩ := env_start (N := N) (j := j) ra (fun a z => z.elim) hN
  refine ⟨rfl, (ns, ()), no, true, by rw [h0]; exact En, hF, fun v H' rv => rv.2⟩
end PL

/-! PL10: repr, and the law's promise at the caller alone (its guards are known there). -/
namespace PL
open PySem PySem.Spec L2 PyProof.Rows
open Enc (enc)

section
variable {X : Cx} {pins : List (Addr × Obj)} {σ : L2.St} {H : Hp} {s : Shared} {T : Ad}
mutual
theorem reads_rp (I : Inv X pins σ H s) : ∀ (d : PyData) (v : V) (u : Value), Rp X.K H T d v → RelV v u → d.hasDict = false → ∃ as, Reads s.heap u d as
  | .none, v, u, h, r, _ => by
    have h : v = .non := h
    subst h
    have r : u = Value.none := r
    subst r
    exact ⟨_, .none⟩
  | .bool b, v, u, h, r, _ => by
    have h : v = .bl b := h
    subst h
    have r : u = Value.bool b := r
    subst r
    exact ⟨_, .bool b⟩
  | .int i, v, u, h, r, _ => by
    have h : v = .int i := h
    subst h
    obtain ⟨t, rfl⟩ := r
    exact ⟨_, .int i t⟩
  | .str x, v, u, h, r, _ => by
    have h : v = .str x := h
    subst h
    obtain ⟨t, rfl⟩ := r
    exact ⟨_, .str x t⟩
  | .list ds, v, u, h, r, nd => by
    obtain ⟨a, xs, e, h1, h2⟩ := h
    subst e
    have r : u = Value.ref a := r
    subst r
    obtain ⟨its, rv, ⟨o, n, q1, q2, _, q3⟩, _⟩ := I.list h1.sq
    obtain ⟨as, ra⟩ := reads_rpA I ds xs its h2 rv (by simpa [PyData.hasDict] using nd)
    exact ⟨_, .list q1 q2 q3 (by simpa using ra)⟩
  | .tuple ds, v, u, h, r, nd => by
    obtain ⟨a, xs, e, h1, h2⟩ := h
    subst e
    have r : u = Value.ref a := r
    subst r
    obtain ⟨its, rv, ⟨o, q1, q2, n, q3⟩, _⟩ := I.tuple h1.sq
    obtain ⟨as, ra⟩ := reads_rpA I ds xs its h2 rv (by simpa [PyData.hasDict] using nd)
    exact ⟨_, .tuple q1 q2 q3 (by simpa using ra)⟩
  | .dict kvs, v, u, h, r, nd => by simp [PyData.hasDict] at nd
theorem reads_rpA (I : Inv X pins σ H s) : ∀ (ds : List PyData) (xs : List V) (us : List Value), RpA X.K H T ds xs → Vals xs us → PyData.hasDictAll ds = false → ∃ as, ReadsAll s.heap us ds as
  | [], xs, us, h, r, _ => by
    have h : xs = [] := h
    subst h
    cases r
    exact ⟨_, .nil⟩
  | d :: ds, xs, us, h, r, nd => by
    obtain ⟨v, vs, e, h1, h2⟩ := h
    subst e
    rw [PyData.hasDictAll, Bool.or_eq_false_iff] at nd
    cases r with
    | cons r1 r2 =>
      obtain ⟨as, q1⟩ := reads_rp I d v _ h1 r1 nd.1
      obtain ⟨bs, q2⟩ := reads_rpA I ds vs _ h2 r2 nd.2
      exact ⟨_, .cons q1 q2⟩
end
theorem reads_rb (I : Inv X pins σ H s) {d : PyData} {v : V} {u : Value} (h : Rb X.K H T d v) (r : RelV v u) (nd : d.hasDict = false) : ∃ as, Reads s.heap u d as := by
  rcases h with h | ⟨ds, a, xs, rfl, rfl, h1, h2⟩ | ⟨kvs, a, es, rfl, _⟩
  · exact reads_rp I d v u h r nd
  · have r : u = Value.ref a := r
    subst r
    obtain ⟨its, rv, ⟨o, n, q1, q2, _, q3⟩, _⟩ := I.list (.inl h1)
    obtain ⟨as, ra⟩ := reads_rpA I ds xs its h2 rv (by simpa [PyData.hasDict] using nd)
    exact ⟨_, .list q1 q2 q3 (by simpa using ra)⟩
  · simp [PyData.hasDict] at nd
end
section
variable {X : Cx}
/-- repr of anything plain -/
theorem call_repr_any (hgd : X.A.guards = some []) (hu : X.A.units + 64 < cLine) :
    CallR X (.builtin "repr") (fun xs H Q => ∃ d v T, xs = [v] ∧ Rb X.K H T d v ∧ d.showable = true ∧ d.hasDict = false ∧ d.shown.length ≤ sizeLine ∧ d.depth ≤ 32 ∧ Q (.str d.shown) H) := by
  intro pins s σ H xs us Q I r h
  obtain ⟨d, v, T, rfl, hr, hs, nd, hz, hd, q⟩ := h
  obtain ⟨u, rfl, rv⟩ := vals1 r
  obtain ⟨as, R⟩ := reads_rb I hr rv nd
  cases R with
  | none => exact PySem.P.repr_of_none ⟨.str _, H, I.tok _, ⟨_, rfl⟩, q⟩
  | bool b => exact PySem.P.repr_of_bool ⟨.str _, H, I.tok _, ⟨_, rfl⟩, q⟩
  | int i t => exact PySem.P.repr_of_int (by simpa [PyData.showable] using hs) ⟨.str _, H, I.tok _, ⟨_, rfl⟩, q⟩
  | str x t => exact PySem.P.repr_of_str ⟨.str _, H, I.tok _, ⟨_, rfl⟩, q⟩ hz
  | list h1 h2 h3 h4 => exact repr_of_reads' (Reads.list h1 h2 h3 h4) hs (fun z => by rw [nd] at z; cases z) hgd (by omega) (fun _ _ e => e) (fun h' u tk k => ⟨.str _, H, I.kept k, ⟨_, rfl⟩, q⟩) hz
  | tuple h1 h2 h3 h4 => exact repr_of_reads' (Reads.tuple h1 h2 h3 h4) hs (fun z => by rw [nd] at z; cases z) hgd (by omega) (fun _ _ e => e) (fun h' u tk k => ⟨.str _, H, I.kept k, ⟨_, rfl⟩, q⟩) hz
  | dict _ _ _ _ _ => simp [PyData.hasDict] at nd
end
def rShow [Enc τ] (x : τ) : Option Tx := if (enc x).showable = true ∧ (enc x).hasDict = false ∧ (enc x).shown.length ≤ sizeLine ∧ (enc x).depth ≤ 32 then some ⟨(enc x).shown.cps.toList⟩ else none
section
variable {Γ τ : Type} {X : Cx} {sl : Γ → Sl} {a : Expr} {p pos : Pos}
theorem pv_repr [Enc τ] {fa : Γ → Option τ} (hgd : X.A.guards = some []) (hu : X.A.units + 64 < cLine) (hg : Gl X "repr") (hm : X.mg "repr" = none) (ha : PV X sl .b a fa) (he : starEach [a] X.env = (false, eval a X.env) :: starEach [] X.env := by rfl) :
    PV X sl .a (.Call (.Name "repr" p) [a] [] pos) (fun s => (fa s).bind fun x => rShow x) :=
  pv_c1 (fun h => pe_callB (call_repr_any hgd hu) hg hm (by rfl) (pa_cons h pa_nil he) (he := he)) (fun T H x u t Q hT r e q => by
    obtain ⟨⟨h1, h2, h3, h4⟩, rfl⟩ := if_some e
    refine ⟨_, x, T, rfl, r, h1, h2, h3, h4, q _ H (Same.refl H) ?_⟩
    show V.str _ = V.str _
    simp) ha
end

/-! ### the promise at the caller alone -/
def FnAt (P : Program) (w : World) (K : PySem.W.Frag) (mg : Str → Option Value) (base : Heap) (f : Addr) (fd : FuncData) (ps : List Str) (sp : Sp) : Prop :=
  ∀ (s : Shared) (H : Hp) (args : Args) (us : List Value) (vs : List V) (Q : VK) (E : XK), Env0 P w K mg base callerA [] s H → BindsTo s fd args (ps.zip us) → Vals vs us → sp vs H Q E →
    codeAny (model P w) callerA (.call (.ref f) args) (CR CX0 [] P w H s Q E) s
section
variable {P : Program} {w : World} {K : PySem.W.Frag} {mg : Str → Option Value} {base : Heap}
theorem fnAt_of {x qual : Str} {st : Stmt} {f : Addr} {fd : FuncData} {N ps : List Str} {k : Nat} {sp : Sp} (F : Fun K x qual st f fd) (S : FnScope N ps (defScope st)) (hr : Room (k + 1) callerA) (len : ∀ vs H Q E, sp vs H Q E → vs.length = ps.length)
    (body : ∀ (cdv : Value) (s : Shared) (H : Hp) (vs : List V) (Q : VK) (E : XK), Room k (callerA.deeper (envOfC qual (defScope st) s.heap.objs.size f cdv)) → sp vs H Q E →
      ∃ t, PSs (cxOf CX0 P w K mg base N qual (defScope st) f cdv callerA [] s H E).nox (defBody st) t ∧ t { nx := fun _ H' => Q .non H', rt := Q } (L2.start N vs) H) : FnAt P w K mg base f fd ps sp := by
  obtain ⟨oc, od, kV, doc, pm, an, cdv, ct, osl, rfl, lk, hcd⟩ := F.ex
  intro s H args us vs Q E e0 hb r hsp
  have n1 := len _ _ _ _ hsp
  have kin : K.In s.heap := e0.mod.kin.keeps fun b o z => (e0.bs b o z).1
  have nolim : s.heap.NoLimit := e0.mod.nolimit.keeps fun b o z => (e0.bs b o z).1
  refine codeAny_call_function hr.depth (kin _ _ lk) rfl S.co S.gen rfl
    (PySem.W.codeRec_of kin hcd) (hb _ _ _ _ ?_)
  refine wpAny_newFunctionEnv_cells S.kind ?_ fun env he s1 x => ?_
  · rintro ⟨n, v⟩ hy
    rcases S.par n (List.of_mem_zip hy).1 with z | z
    · exact .inl z
    · exact .inr ⟨z, PySem.W.cellsFrom_some _ _ _ (.inl z)⟩
  · subst he
    refine ⟨nolim.keeps x.toInCall.keep, codeAny_func ?_⟩
    obtain ⟨t, ht0, hq⟩ := body cdv s H vs Q E (hr.deeper _) hsp
    have ht := ht0.nox
    refine wpAny_mono (ht.run [] s1 (L2.start N vs) H _ (inv_start S hr.hd e0 n1 r x) hq) (fun fl s' hs => ?_) fun e s' hs => hs
    rcases fl with _ | _ | _ | u
    · obtain ⟨σ', H', J, q⟩ := hs
      exact ⟨.non, H', J.os, J.bare, J.base, J.hok, rfl, q⟩
    · obtain ⟨_, _, _, q⟩ := hs
      exact False.elim q
    · obtain ⟨_, _, _, q⟩ := hs
      exact False.elim q
    · obtain ⟨v, σ', H', J, rv, q⟩ := hs
      exact ⟨v, H', J.os, J.bare, J.base, J.hok, rv, q⟩
end
end PL

/-! PL11: the end of a law from the promise at the caller alone; the law's def. -/
namespace PL
open PySem PySem.Spec L2 PyProof.Rows
open Enc (enc)
variable {Γ Γ' ρ τ A : Type}

theorem at_call {P : Program} {w : World} {K : PySem.W.Frag} {mg mb : Str → Option Value} {fa a : Addr} {fd : FuncData} {x : Str} {sp : Sp} {s : Shared} {vs : List Value} {ns : List Int}
    (kin : K.In s.heap) (g1 : s.heap.Ns mainGlobals mg) (g2 : s.heap.Ns builtinsNs mb) (g3 : ∀ x : Str, x ≠ "__name__" → mb x = bootBuiltins x) (g4 : s.heap.NoLimit) (g5 : s.gens = #[])
    (ha : s.heap.get? a = some { cls := .type "list", data := .seq vs.toArray }) (hi : PyProof.Rows.IntsAre vs ns) (hl : ns.length ≤ sizeLine)
    (F : ∀ b : Heap, K.In b → b.Ns mainGlobals mg → FnAt P w K mg b fa fd [x] sp) (hb : ∀ (s : Shared) (u : Value), BindsTo s fd ⟨[u], []⟩ [(x, u)])
    (hsp : ∀ H : Hp, SqL K H a (ns.map V.int) → sp [.ref a] H (fun v _ => v = .bl true) fun _ _ _ => False) :
    codeAny (model P w) callerA (.call (.ref fa) ⟨[.ref a], []⟩) (fun r s' => r = .ok (.ret (.bool true)) ∧ OldK s.heap s'.heap ∧ s'.os = s.os ∧ AllBare s'.gens) s := by
  have rv := vals_ints hi
  -- the script is tracked, frozen, unless the module itself holds it
  obtain ⟨H, h1, h2, h3, h4⟩ : ∃ H : Hp, SqL K H a (ns.map V.int) ∧ HOk P w H s.heap ∧ (∀ b, H b ≠ none → b = a ∧ K.lookup a = none) ∧ ∀ b, H b = none ∨ ∃ o u, H b = some (.frz o u) := by
    cases e : K.lookup a with
    | some o =>
      refine ⟨fun _ => none, .inr ?_, (fun b u z => by have z : (none : Option HO) = some u := z; cases z), (fun b z => absurd rfl z), (fun _ => .inl rfl)⟩
      have q := kin a o e
      rw [ha] at q
      cases q
      refine ⟨_, vs.toArray, _, e, rfl, rfl, rfl, ?_, ?_⟩
      · rw [List.size_toArray, hi.length]; exact hl
      · simpa using rv
    | none =>
      refine ⟨fun b => if b = a then some (.frz { cls := .type "list", data := .seq vs.toArray } (.lst (ns.map V.int))) else none, .inl (.inr ⟨{ cls := .type "list", data := .seq vs.toArray }, if_pos rfl⟩), fun b u z => ?_, fun b z => ?_, fun b => ?_⟩
      · by_cases hba : b = a
        · subst hba
          have z2 := (if_pos rfl).symm.trans z
          cases z2
          refine ⟨ha, ?_, vs, _, rv, ha⟩
          rw [List.length_map]; exact hl
        · have z2 := (if_neg hba).symm.trans z
          cases z2
      · by_cases hba : b = a
        · exact ⟨hba, rfl⟩
        · exact absurd (if_neg hba) z
      · by_cases hba : b = a
        · exact .inr ⟨_, _, if_pos hba⟩
        · exact .inl (if_neg hba)
  have low : ∀ {b : Addr} {o : Obj}, s.heap.get? b = some o → H b = none → (hidT s.heap H).get? b = some o := fun z n => hidT_get z n
  have nsl : ∀ {b : Addr} {m : Str → Option Value}, s.heap.Ns b m → (hidT s.heap H).Ns b m := by
    rintro b m ⟨o, es, ep, z, d, r⟩
    refine ⟨o, es, ep, low z ?_, d, r⟩
    cases q : H b with
    | none => rfl
    | some u =>
      obtain ⟨rfl, _⟩ := h3 b (by rw [q]; simp)
      rw [ha] at z
      cases z
      cases d
  have kb : K.In (hidT s.heap H) := fun b o z => low (kin b o z) (by
    cases q : H b with
    | none => rfl
    | some u =>
      obtain ⟨rfl, n⟩ := h3 b (by rw [q]; simp)
      rw [n] at z
      cases z)
  have md : Mod K mg (hidT s.heap H) := by
    obtain ⟨mc, y1, y2⟩ := g4
    exact ⟨kb, nsl g1, ⟨mb, nsl g2, g3⟩, ⟨mc, nsl y1, y2⟩⟩
  have e0 : Env0 P w K mg (hidT s.heap H) callerA [] s H :=
    ⟨rfl, md, fun b o z => of_hidT z, Nat.le_of_eq (hidT_size _ _), trivial, (fun b z => by cases z), h2, .of_eq g5⟩
  have go := F _ kb (nsl g1) s H ⟨[.ref a], []⟩ [.ref a] [.ref a] _ _ e0 (hb s (.ref a)) (.cons rfl .nil) (hsp H h1)
  refine codeAny_mono go fun r s' h => ?_
  rcases r with e | fl
  · exact False.elim h
  · rcases fl with _ | _ | _ | u
    · exact False.elim h
    · exact False.elim h
    · exact False.elim h
    · obtain ⟨v, H', os, bare, un, ok', r', q⟩ := h
      have q2 : v = .bl true := q
      subst q2
      have r2 : u = Value.bool true := r'
      subst r2
      refine ⟨rfl, OldK.of_keep fun b o z => ?_, os, bare⟩
      rcases h4 b with q | ⟨ob, u2, q⟩
      · exact un.keep b o z q (by intro y; cases y) (by intro y; cases y)
      · have q2 := un.frzs b ob _ q
        obtain ⟨i1, _⟩ := h2 b _ q
        obtain ⟨i2, _⟩ := ok' b _ q2
        rw [z] at i1
        cases i1
        exact i2

theorem walk_at {l : PySem.W.OpenLaw} {n : Nat} {q : Program} {loose : List Str} {XP : (Str → Option Value) → Heap → Prop} {YP : World → Heap → Prop} {d : DefRec} {K : Params → PySem.W.Frag} {sp : World → Sp} {x : Str}
    (h1 : l.most = some n) (h2 : n ≤ sizeLine) (h3 : d.params.defaults = []) (h4 : ∀ (w : World) (h : Heap), YP w h → (K w.params).In h)
    (F : ∀ (w : World) (mg : Str → Option Value) (fa : Addr) (h : Heap), (K w.params).In h → h.Ns mainGlobals mg → mg d.name = some (.ref fa) →
      ∃ fd : FuncData, (∀ (s : Shared) (u : Value), BindsTo s fd ⟨[u], []⟩ [(x, u)]) ∧ ∀ b : Heap, (K w.params).In b → b.Ns mainGlobals mg → FnAt l.prog w (K w.params) mg b fa fd [x] (sp w))
    (hsp : ∀ (w : World) (H : Hp) (a : Addr) (ns : List Int), ns.length ≤ n → SqL (K w.params) H a (ns.map V.int) → sp w [.ref a] H (fun v _ => v = .bl true) fun _ _ _ => False) :
    PySem.W.WalkO q loose XP YP l.row.toRowW d [] (fun f vs => PySem.call f vs) := by
  refine Att.attach_call h1 h3 ?_
  intro w s₀ s₁ mg mb fa o pm cd doc a vs ns G Y ho hd hcd hmg hobj hints hlen hg
  have kin := h4 w _ Y
  obtain ⟨fd, hb, hF⟩ := F w mg fa _ kin G.T.g hmg
  exact at_call kin G.T.g G.T.b G.T.builtins G.T.nolimit hg hobj hints (Nat.le_trans hlen h2) hF hb fun H hS => hsp w H a ns hlen hS
section
variable {P : Program} {w : World} {K : PySem.W.Frag} {mg : Str → Option Value} {base : Heap}
theorem fnAt_v [Enc ρ] {x qual : Str} {st : Stmt} {f : Addr} {fd : FuncData} {N ps : List Str} {k n : Nat} {sl0 : A → Sl} {slE : Γ → Sl} {fb : A → Option (Out Γ ρ)} {F : A → Option ρ} {kr : Kd} (dn : Option ρ) (Fn : Fun K x qual st f fd) (S : FnScope N ps (defScope st)) (hr : Room (k + 1) callerA) (hn : ps.length = n := by rfl)
    (hdn : ∀ r, dn = some r → enc r = .none) (hk : kr = .a ∨ kr = .f ∧ dn = none)
    (hF : ∀ g, F g = outF dn (fb g))
    (hb : ∀ (cdv : Value) (s : Shared) (H : Hp) (E : XK), Room k (callerA.deeper (envOfC qual (defScope st) s.heap.objs.size f cdv)) →
      BV (cxOf CX0 P w K mg base N qual (defScope st) f cdv callerA [] s H E).nox sl0 slE kr (defBody st) fb) :
    FnAt P w K mg base f fd ps (spF K N n sl0 kr F) := by
  refine fnAt_of Fn S hr (fun vs H Q E h => h.1.trans hn.symm) fun cdv s H vs Q E hr h => ?_
  obtain ⟨hl, g, S0, r, En, hFr, q⟩ := h
  refine ⟨_, hb cdv s H E hr, ?_⟩
  rw [hF] at hFr
  obtain ⟨o, h1, h2⟩ := bind1 hFr
  refine ⟨g, S0, no, o, En, h1, ?_⟩
  cases o with
  | rt r' =>
    cases h2
    exact q
  | nx g' =>
    have h2 : dn = some r := h2
    rcases hk with rfl | ⟨_, e⟩
    · exact fun σ' H' S' _ m => q .non H' ⟨m.no, by rw [hdn r h2]; rfl⟩
    · rw [e] at h2; cases h2
end
example {P : Program} {w : World} {K : PySem.W.Frag} {mg : Str → Option Value} {base : Heap} {N : List Str} {qual : Str} {sc : Scope} {f : Addr} {cdv : Value} {s : Shared} {H : Hp} {E : XK} : (cxOf CX0 P w K mg base N qual sc f cdv callerA [] s H E).nox.A.guards = some [] := rfl
end PL

/-! PL12: dicts that a def owns. -/
namespace PL
open PySem PySem.Spec L2
open Enc (enc)
variable {Γ Γ' ρ τ κ : Type} {X : Cx} {sl : Γ → Sl} {sl' : Γ' → Sl} {e : Expr} {pos : Pos} {kr : Kd}
/-- keys -/
class KeyT (κ : Type) [Enc κ] [DecidableEq κ] where
  key : κ → Key
  kd : ∀ k : κ, keyD (enc k) = some (key k)
  inj : ∀ k l : κ, key k = key l → k = l
  rp : ∀ (K : PySem.W.Frag) (H : Hp) (T : Ad) (k : κ) (v : V), Rb K H T (enc k) v → v = kV (key k)
open KeyT (key)
instance : KeyT Int := ⟨.inl, fun _ => rfl, fun _ _ e => Sum.inl.inj e, fun _ _ _ _ _ h => rb_i h⟩
instance : KeyT Tx := ⟨fun x => .inr ⟨x.cs.toArray⟩, fun _ => rfl, fun k l e => by
  have := congrArg Str.cps (Sum.inr.inj e)
  have h : k.cs = l.cs := by simpa using this
  cases k; cases l; cases h; rfl, fun _ _ _ _ _ h => rb_t h⟩
structure Dct (κ τ : Type) where
  es : List (κ × τ)
def eE [Enc κ] [Enc τ] (q : κ × τ) : PyData × PyData := (enc q.1, enc q.2)
instance [Enc κ] [Enc τ] : Enc (Dct κ τ) := ⟨fun d => .dict (d.es.map eE)⟩
def kGet [DecidableEq κ] (d : Dct κ τ) (k : κ) : Option τ := (d.es.find? fun q => decide (q.1 = k)).map (·.2)
def kIn [DecidableEq κ] (k : κ) (d : Dct κ τ) : Option Bool := some (kGet d k).isSome
def kNin [DecidableEq κ] (k : κ) (d : Dct κ τ) : Option Bool := some (!(kGet d k).isSome)
def kPut [DecidableEq κ] (d : Dct κ τ) (k : κ) (t : τ) : Option (Dct κ τ) :=
  if d.es.length < sizeLine then some ⟨if (d.es.any fun q => decide (q.1 = k)) = true then d.es.map (fun q => if q.1 = k then (q.1, t) else q) else d.es ++ [(k, t)]⟩ else none
section
variable {K : PySem.W.Frag} {H : Hp} {T : Ad} {v : V}
theorem rb_d [Enc κ] [Enc τ] {d : Dct κ τ} (h : Rb K H T (enc d) v) : ∃ a es, v = .ref a ∧ Rd H a (.dK es) ∧ RpK K H T (d.es.map eE) es := by
  rcases h with ⟨a, es, e, h1, h2⟩ | ⟨_, _, _, e, _⟩ | ⟨kvs, a, es, e, rfl, h1, h2⟩
  · exact ⟨a, es, e, h1.1, h2⟩
  · cases e
  · cases e
    exact ⟨a, es, rfl, h1, h2⟩
variable [Enc κ] [Enc τ] [DecidableEq κ] [KeyT κ]
theorem rpk_get (k : κ) : ∀ {es : List (κ × τ)} {ks : List (Key × V)}, RpK K H T (es.map eE) ks →
    (∃ t v, kGet ⟨es⟩ k = some t ∧ valV ks (key k) = some v ∧ Rp K H T (enc t) v) ∨ (kGet ⟨es⟩ k = none ∧ valV ks (key k) = none)
  | [], ks, h => by
    have h : ks = [] := h
    subst h
    exact .inr ⟨rfl, rfl⟩
  | (k', t) :: es, ks, h => by
    obtain ⟨i, v, vs, rfl, hk, h1, h2⟩ := h
    have hk : i = key k' := by
      have := KeyT.kd k'
      exact Option.some.inj (hk.symm.trans this)
    subst hk
    by_cases c : k' = k
    · subst c
      exact .inl ⟨t, v, by simp [kGet, List.find?_cons], valV_pos rfl, h1⟩
    · have c2 : key k' ≠ key k := fun z => c (KeyT.inj _ _ z)
      rcases rpk_get k h2 with ⟨t2, v2, g1, g2, g3⟩ | ⟨g1, g2⟩
      · exact .inl ⟨t2, v2, by simpa [kGet, List.find?_cons, c] using g1, by simpa [valV, List.find?_cons, c2] using g2, g3⟩
      · exact .inr ⟨by simpa [kGet, List.find?_cons, c] using g1, by simpa [valV, List.find?_cons, c2] using g2⟩
theorem rpk_any (k : κ) : ∀ {es : List (κ × τ)} {ks : List (Key × V)}, RpK K H T (es.map eE) ks → (ks.any fun kv => decide (kv.1 = key k)) = es.any fun q => decide (q.1 = k)
  | [], ks, h => by
    have h : ks = [] := h
    subst h
    rfl
  | (k', t) :: es, ks, h => by
    obtain ⟨i, v, vs, rfl, hk, h1, h2⟩ := h
    have hk : i = key k' := Option.some.inj (hk.symm.trans (KeyT.kd k'))
    subst hk
    rw [List.any_cons, List.any_cons, rpk_any k h2]
    congr 1
    exact decide_eq_decide.mpr ⟨fun z => KeyT.inj _ _ z, fun z => by have z : k' = k := z; rw [z]⟩
theorem rpk_map (k : κ) {t : τ} {v : V} (hv : Rp K H T (enc t) v) : ∀ {es : List (κ × τ)} {ks : List (Key × V)}, RpK K H T (es.map eE) ks →
    RpK K H T ((es.map fun q => if q.1 = k then (q.1, t) else q).map eE) (ks.map fun kv => if kv.1 = key k then (kv.1, v) else kv)
  | [], ks, h => by
    have h : ks = [] := h
    subst h
    rfl
  | (k', t') :: es, ks, h => by
    obtain ⟨i, v', vs, rfl, hk, h1, h2⟩ := h
    have hk2 : i = key k' := Option.some.inj (hk.symm.trans (KeyT.kd k'))
    subst hk2
    by_cases c : k' = k
    · have c2 : key k' = key k := by rw [c]
      refine ⟨key k', v, _, ?_, ?_, ?_, rpk_map k hv h2⟩
      · simp [c2]
      · simp only [if_pos c]; exact KeyT.kd k'
      · simp only [if_pos c]; exact hv
    · have c2 : key k' ≠ key k := fun z => c (KeyT.inj _ _ z)
      refine ⟨key k', v', _, ?_, ?_, ?_, rpk_map k hv h2⟩
      · simp [c2]
      · simp only [if_neg c]; exact KeyT.kd k'
      · simp only [if_neg c]; exact h1
theorem rpk_app (k : κ) {t : τ} {v : V} (hv : Rp K H T (enc t) v) : ∀ {es : List (κ × τ)} {ks : List (Key × V)}, RpK K H T (es.map eE) ks → RpK K H T ((es ++ [(k, t)]).map eE) (ks ++ [(key k, v)])
  | [], ks, h => by
    have h : ks = [] := h
    subst h
    exact ⟨_, _, _, rfl, KeyT.kd k, hv, rfl⟩
  | (k', t') :: es, ks, h => by
    obtain ⟨i, v', vs, rfl, hk, h1, h2⟩ := h
    exact ⟨i, v', _, rfl, hk, h1, rpk_app k hv h2⟩
theorem rpk_put (k : κ) {t : τ} {v : V} (hv : Rp K H T (enc t) v) {es : List (κ × τ)} {ks : List (Key × V)} (h : RpK K H T (es.map eE) ks) :
    RpK K H T ((if (es.any fun q => decide (q.1 = k)) = true then es.map (fun q => if q.1 = k then (q.1, t) else q) else es ++ [(k, t)]).map eE) (putK ks (key k) v) := by
  unfold putK
  rw [rpk_any k h]
  by_cases c : (es.any fun q => decide (q.1 = k)) = true
  · rw [if_pos c, if_pos c]; exact rpk_map k hv h
  · rw [if_neg c, if_neg c]; exact rpk_app k hv h
theorem rpk_len : ∀ {es : List (κ × τ)} {ks : List (Key × V)}, RpK K H T (es.map eE) ks → ks.length = es.length
  | [], ks, h => by
    have h : ks = [] := h
    subst h
    rfl
  | _ :: es, ks, h => by
    obtain ⟨i, v', vs, rfl, hk, h1, h2⟩ := h
    simp [rpk_len h2]
end
variable [Enc κ] [Enc τ] [DecidableEq κ] [KeyT κ] {fd : Γ → Option (Dct κ τ)} {fk : Γ → Option κ} {o i : Expr}
theorem pv_dict : PV X sl .f (.Dict [] [] pos) (fun _ => some (⟨[]⟩ : Dct κ τ)) := PE.imp pe_dnewK fun σ H Q ⟨γ, S0, S, t, E, hf, q⟩ p hp => by
  cases hf
  exact q _ _ (same_new hp) ⟨p, rfl, hp, .inr ⟨[], [], rfl, upd_same, rfl⟩⟩
theorem pv_dget (hu : X.A.units + 64 < cLine) (ho : PV X sl .b o fd) (hi : PV X sl .b i fk) (hs : NoSl i := by intro _ _; rfl) : PV X sl .a (.Subscript o i pos) (fun s => (fd s).bind fun x => (fk s).bind fun y => kGet x y) :=
  PE.imp (pe_dget (by omega) ho hi hs) fun σ H Q ⟨γ, S0, S, t, E, hf, q⟩ => by
    obtain ⟨u, w, h1, h2, h3⟩ := bind2 hf
    refine ⟨γ, S0, S, u, E, h1, fun x H1 s1 r1 => ⟨γ, S0, S, w, E.same s1, h2, fun y H2 s2 r2 => ?_⟩⟩
    obtain ⟨a, es, rfl, g1, g2⟩ := rb_d (Rb.mv (.same s2) r1 s2)
    obtain rfl := KeyT.rp _ _ _ _ _ r2
    rcases rpk_get w g2 with ⟨t', v, e1, e2, e3⟩ | ⟨e1, _⟩
    · have e4 : t' = t := Option.some.inj (e1.symm.trans h3)
      subst e4
      exact ⟨a, v, rfl, .inl ⟨es, _, g1, rfl, e2.symm⟩, q _ H2 (s1.trans s2) e3⟩
    · have e1 : kGet u w = none := e1
      rw [e1] at h3; cases h3

theorem pv_inD (hu : X.A.units + 64 < cLine) (hi : PV X sl .b i fk) (ho : PV X sl .b o fd) (hm : behindInMarks .In o = false := by first | exact nomark _ | with_unfolding_all rfl) : PV X sl .a (.Compare i [.In] [o] pos) (fun s => (fk s).bind fun y => (fd s).bind fun x => kIn y x) :=
  PE.imp (pe_cmp (pc_din (by omega) hi ho) hm) fun σ H Q ⟨γ, S0, S, t, E, hf, q⟩ => by
    obtain ⟨u, w, h1, h2, h3⟩ := bind2 hf
    cases h3
    refine ⟨γ, S0, S, u, E, h1, fun x H1 s1 r1 => ⟨γ, S0, S, w, E.same s1, h2, fun y H2 s2 r2 => ?_⟩⟩
    obtain ⟨a, es, rfl, g1, g2⟩ := rb_d r2
    obtain rfl := KeyT.rp _ _ _ _ _ r1
    refine ⟨a, _, rfl, .inl ⟨es, _, g1, rfl, rfl⟩, q _ H2 (s1.trans s2) ?_⟩
    rcases rpk_get u g2 with ⟨t', v, e1, e2, e3⟩ | ⟨e1, e2⟩
    · rw [e2]; show V.bl _ = V.bl _; rw [show kGet w u = some t' from e1]; rfl
    · rw [e2]; show V.bl _ = V.bl _; rw [show kGet w u = none from e1]; rfl
theorem pv_ninD (hu : X.A.units + 64 < cLine) (hi : PV X sl .b i fk) (ho : PV X sl .b o fd) (hm : behindInMarks .NotIn o = false := by first | exact nomark _ | with_unfolding_all rfl) : PV X sl .a (.Compare i [.NotIn] [o] pos) (fun s => (fk s).bind fun y => (fd s).bind fun x => kNin y x) :=
  PE.imp (pe_cmp (pc_dnotin (by omega) hi ho) hm) fun σ H Q ⟨γ, S0, S, t, E, hf, q⟩ => by
    obtain ⟨u, w, h1, h2, h3⟩ := bind2 hf
    cases h3
    refine ⟨γ, S0, S, u, E, h1, fun x H1 s1 r1 => ⟨γ, S0, S, w, E.same s1, h2, fun y H2 s2 r2 => ?_⟩⟩
    obtain ⟨a, es, rfl, g1, g2⟩ := rb_d r2
    obtain rfl := KeyT.rp _ _ _ _ _ r1
    refine ⟨a, _, rfl, .inl ⟨es, _, g1, rfl, rfl⟩, q _ H2 (s1.trans s2) ?_⟩
    rcases rpk_get u g2 with ⟨t', v, e1, e2, e3⟩ | ⟨e1, e2⟩
    · rw [e2]; show V.bl _ = V.bl _; rw [show kGet w u = some t' from e1]; rfl
    · rw [e2]; show V.bl _ = V.bl _; rw [show kGet w u = none from e1]; rfl
theorem pb_inD (hu : X.A.units + 64 < cLine) (hi : PV X sl .b i fk) (ho : PV X sl .b o fd) (hm : behindInMarks .In o = false := by first | exact nomark _ | with_unfolding_all rfl) : PB X sl (.Compare i [.In] [o] pos) (fun s => (fk s).bind fun y => (fd s).bind fun x => kIn y x) :=
  PT.imp (pt_cmp (pc_din (by omega) hi ho) hm) fun σ H Q ⟨γ, S0, S, t, E, hf, q⟩ => by
    obtain ⟨u, w, h1, h2, h3⟩ := bind2 hf
    cases h3
    refine ⟨γ, S0, S, u, E, h1, fun x H1 s1 r1 => ⟨γ, S0, S, w, E.same s1, h2, fun y H2 s2 r2 => ?_⟩⟩
    obtain ⟨a, es, rfl, g1, g2⟩ := rb_d r2
    obtain rfl := KeyT.rp _ _ _ _ _ r1
    refine ⟨a, _, rfl, .inl ⟨es, _, g1, rfl, rfl⟩, ⟨_, ?_, q H2 (s1.trans s2)⟩⟩
    rcases rpk_get u g2 with ⟨t', v, e1, e2, e3⟩ | ⟨e1, e2⟩
    · rw [e2]; show V.bl _ = V.bl _; rw [show kGet w u = some t' from e1]; rfl
    · rw [e2]; show V.bl _ = V.bl _; rw [show kGet w u = none from e1]; rfl
theorem pb_ninD (hu : X.A.units + 64 < cLine) (hi : PV X sl .b i fk) (ho : PV X sl .b o fd) (hm : behindInMarks .NotIn o = false := by first | exact nomark _ | with_unfolding_all rfl) : PB X sl (.Compare i [.NotIn] [o] pos) (fun s => (fk s).bind fun y => (fd s).bind fun x => kNin y x) :=
  PT.imp (pt_cmp (pc_dnotin (by omega) hi ho) hm) fun σ H Q ⟨γ, S0, S, t, E, hf, q⟩ => by
    obtain ⟨u, w, h1, h2, h3⟩ := bind2 hf
    cases h3
    refine ⟨γ, S0, S, u, E, h1, fun x H1 s1 r1 => ⟨γ, S0, S, w, E.same s1, h2, fun y H2 s2 r2 => ?_⟩⟩
    obtain ⟨a, es, rfl, g1, g2⟩ := rb_d r2
    obtain rfl := KeyT.rp _ _ _ _ _ r1
    refine ⟨a, _, rfl, .inl ⟨es, _, g1, rfl, rfl⟩, ⟨_, ?_, q H2 (s1.trans s2)⟩⟩
    rcases rpk_get u g2 with ⟨t', v, e1, e2, e3⟩ | ⟨e1, e2⟩
    · rw [e2]; show V.bl _ = V.bl _; rw [show kGet w u = some t' from e1]; rfl
    · rw [e2]; show V.bl _ = V.bl _; rw [show kGet w u = none from e1]; rfl
/-- d[k] = v, d an owned dict -/
theorem sv_dput [Enc ρ] {x : Str} {j : Nat} {value ix : Expr} {fv : Γ → Option τ} {p0 p1 : Pos} (q : Γ → Dct κ τ) (set : Γ → Dct κ τ → Γ') (hu : X.A.units + 64 < cLine) (hq : ∀ g, (sl g)[j]? = some (some (.o, enc (q g)))) (h : ∀ g t, sl' (set g t) = (sl g).set j (some (.o, enc t)))
    (hv : PV X sl .a value fv) (hi : PV X sl .b ix fk) (hN : X.N[j]? = some x := by rfl)
    (hvis : Vis X.env.scope x := by first | exact Or.inl rfl | exact Or.inr (Or.inl rfl) | exact Or.inr (Or.inr rfl)) (hd : (x == ("__debug__" : Str)) = false := by decide) (hcd : (x == ("__classdict__" : Str)) = false := by decide)
    (hs : swapsWith value (some (.Subscript (.Name x p0) ix p1)) pos.line X.env = pure false := by rfl) :
    SV (ρ := ρ) X sl sl' kr (.Assign [.Subscript (.Name x p0) ix p1] value pos) (fun g => (fv g).bind fun t => (fk g).bind fun k => (kPut (q g) k t).bind fun l => some (.nx (set g l))) :=
  PS.imp (ps_dput (by omega) (pe_var (i := j) hN hvis hd hcd) hi hv hs) fun D σ H ⟨γ, S0, S, o, E, hf, p⟩ => by
    obtain ⟨t, e1, e2⟩ := bind1 hf
    obtain ⟨k, e3, e4⟩ := bind1 e2
    obtain ⟨l, e5, e6⟩ := bind1 e4
    cases e6
    obtain ⟨hz, rfl⟩ := if_some e5
    refine ⟨γ, S0, S, t, E, e1, fun y H1 s1 r1 => ?_⟩
    have E1 := E.same s1
    obtain ⟨v, h1, a, rfl, h2, h3⟩ := E1.at_ j _ _ (hq γ)
    refine ⟨_, h1, γ, S0, S, k, E1, e3, fun z H2 s2 r2 => ?_⟩
    have E2 := E1.same s2
    obtain rfl := KeyT.rp _ _ _ _ _ r2
    rcases h3 with ⟨_, _, e1', _⟩ | ⟨kvs, es, e1', g1, g2⟩
    · cases e1'
    · cases e1'
      have g3 := s2 _ _ g1
      have g4 : RpK X.K H2 (un S S0) ((q γ).es.map eE) es := RpK.mv (.same s2) _ _ g2
      refine ⟨a, _, rfl, .inl ⟨es, _, g3, rfl, by rw [rpk_len g4]; exact hz, rfl⟩, ?_⟩
      obtain ⟨mv, E3⟩ := E2.chg (u := .dK (putK es (KeyT.key k) y)) (d' := enc (⟨if ((q γ).es.any fun q => decide (q.1 = k)) = true then (q γ).es.map (fun q => if q.1 = k then (q.1, t) else q) else (q γ).es ++ [(k, t)]⟩ : Dct κ τ)) (hq γ) h1 h2 fun mv => .inr ⟨_, _, rfl, upd_same, by
        have g5 := RpK.mv mv.un _ _ g4
        have r3 : Rp X.K _ _ (enc t) y := Rp.mv mv.un _ _ (Rp.mv (.same s2) _ _ r1)
        exact rpk_put k r3 g5⟩
      refine p _ _ S ?_ ((Mv.same (s1.trans s2)).trans mv)
      rw [h]
      exact E3
end PL

/-! PL13: texts. -/
namespace PL
open PySem PySem.Spec L2
open Enc (enc)
variable {Γ Γ' ρ τ : Type} {X : Cx} {sl : Γ → Sl} {sl' : Γ' → Sl} {e o i : Expr} {pos apos : Pos} {kr : Kd}
def jL (a : List Nat) : List (List Nat) → List Nat
  | [] => []
  | [p] => p
  | p :: q :: r => p ++ (a ++ jL a (q :: r))
theorem jL_eq (a : List Nat) : ∀ ys, TL.joinL a ys = jL a ys
  | [] => rfl
  | [p] => rfl
  | p :: q :: r => by
    have := jL_eq a (q :: r)
    show p ++ (a ++ TL.joinL a (q :: r)) = p ++ (a ++ jL a (q :: r))
    rw [this]
def tJn (x : Tx) (ys : List Tx) : Option Tx := if (ys.map fun t => t.cs.length).sum + ys.length * x.cs.length ≤ 16777216 then some ⟨jL x.cs (ys.map fun t => t.cs)⟩ else none
theorem rpa_txs {K : PySem.W.Frag} {H : Hp} {T : Ad} : ∀ {t : List Tx} {xs : List V}, RpA K H T (t.map enc) xs → xs = ((t.map fun q => q.cs).map SX.S).map V.str
  | [], xs, h => by have h : xs = [] := h; rw [h]; rfl
  | t :: ts, xs, h => by
    obtain ⟨v, vs, rfl, h1, h2⟩ := h
    have h1 : v = .str ⟨t.cs.toArray⟩ := h1
    rw [rpa_txs h2, h1]
    rfl
theorem pv_join {fo : Γ → Option Tx} {fe : Γ → Option (List Tx)} (ho : PV X sl .b o fo) (he : PV X sl .b e fe) (hs : starEach [e] X.env = [(false, eval e X.env)] := by rfl) (hbase : attributeBase o "join" X.env (eval o X.env) = eval o X.env := by rfl) (hline : (apos.endLine == pos.line) = true := by rfl) :
    PV X sl .a (.Call (.Attribute o "join" apos) [e] [] pos) (fun s => (fo s).bind fun x => (fe s).bind fun y => tJn x y) :=
  PE.imp (pe_join ho he hs hbase hline) fun σ H Q ⟨γ, S0, S, t, E, hf, q⟩ => by
    obtain ⟨u, w, h1, h2, h3⟩ := bind2 hf
    obtain ⟨hz, rfl⟩ := if_some h3
    refine ⟨γ, S0, S, u, E, h1, fun x H1 s1 r1 => ⟨⟨_, rb_t r1⟩, γ, S0, S, w, E.same s1, h2, fun y H2 s2 r2 => ?_⟩⟩
    obtain ⟨p, xs, rfl, g1, g2⟩ := rb_l r2
    refine ⟨_, p, (w.map fun q => q.cs).map SX.S, rb_t r1, rfl, .inl (by rw [← rpa_txs g2]; exact g1), ?_, q _ H2 (s1.trans s2) ?_⟩
    · simp only [List.map_map, List.length_map]
      exact hz
    · have := SX.join_S u.cs (w.map fun q => q.cs)
      rw [jL_eq] at this
      show V.str _ = V.str _
      exact congrArg V.str this

/-- the first place of a sign -/
def fIx (c : Nat) : List Nat → Nat → Option Nat
  | [], _ => none
  | d :: l, n => if d = c then some n else fIx c l (n + 1)
def tIndex (x y : Tx) : Option Int := match y.cs with
  | [c] => (fIx c x.cs 0).map fun n => (n : Int)
  | _ => none
theorem fIx_spec {c : Nat} : ∀ {l : List Nat} {n k : Nat}, fIx c l n = some k → ∃ i, k = n + i ∧ l[i]? = some c ∧ ∀ j, j < i → l[j]? ≠ some c
  | [], n, k, h => by cases h
  | d :: l, n, k, h => by
    unfold fIx at h
    by_cases e : d = c
    · rw [if_pos e] at h; cases h
      exact ⟨0, rfl, by rw [e]; rfl, fun j hj => by omega⟩
    · rw [if_neg e] at h
      obtain ⟨i, h1, h2, h3⟩ := fIx_spec h
      refine ⟨i + 1, by omega, by simpa using h2, fun j hj => ?_⟩
      cases j with
      | zero => intro z; exact e (by simpa using z)
      | succ j => have := h3 j (by omega); simpa using this
theorem occ_fst {l : List Nat} {c i : Nat} (h1 : l[i]? = some c) (h2 : ∀ j, j < i → l[j]? ≠ some c) : ∃ r, Builtin.Str.occurrences (SX.S l) ⟨#[c]⟩ 0 (SX.S l).length 1 = i :: r := by
  rw [StrLaws.occ_eq]
  have at_iff : ∀ j, StrLaws.At (SX.S l) ⟨#[c]⟩ (SX.S l).length j ↔ l[j]? = some c := fun j => by
    have := StrLaws.subAt_one (SX.S l) c j
    simpa [StrLaws.At] using this
  have il : i < l.length := by
    rcases Nat.lt_or_ge i l.length with h | h
    · exact h
    · rw [List.getElem?_eq_none h] at h1; cases h1
  rcases StrLaws.occ_first (SX.S l) ⟨#[c]⟩ (SX.S l).length 1 (Nat.le_refl 1) (List.range' 0 ((SX.S l).length + 1 - 0)) 0 (fun _ _ => Nat.zero_le _) with ⟨_, h⟩ | ⟨pre, a, post, e, h, ha, hp⟩
  · refine absurd ((at_iff i).mpr h1) (h i ?_)
    rw [List.mem_range'_1]
    refine ⟨Nat.zero_le _, ?_⟩
    show i < 0 + (l.toArray.size + 1 - 0)
    simp; omega
  · have e1 : a = i := by
      have ha2 := (at_iff a).mp ha
      have e2 : pre.length = a := by
        have := congrArg (fun q => q[pre.length]?) e
        simp only [List.getElem?_append_right (Nat.le_refl _), Nat.sub_self, List.getElem?_cons_zero] at this
        rw [List.getElem?_range'] at this
        · simpa using this
        · have := congrArg List.length e
          simp at this ⊢
          omega
      rcases Nat.lt_trichotomy a i with h3 | h3 | h3
      · exact absurd ha2 (h2 a h3)
      · exact h3
      · refine absurd ((at_iff i).mpr h1) (hp i ?_)
        have : pre[i]? = some i := by
          have := congrArg (fun q => q[i]?) e
          simp only [List.getElem?_append_left (show i < pre.length by omega)] at this
          rw [List.getElem?_range'] at this
          · simpa using this.symm
          · have := congrArg List.length e
            simp at this ⊢
            omega
        exact List.mem_of_getElem? this
    subst e1
    cases q : (forIn (List.range' 0 ((SX.S l).length + 1 - 0)) ((#[] : Array Nat), 0) (StrLaws.occBody (SX.S l) ⟨#[c]⟩ (SX.S l).length 1)).run.fst.toList with
    | nil =>
      have h' := h
      rw [← Array.getElem?_toList, q] at h'
      cases h'
    | cons b r =>
      refine ⟨r, ?_⟩
      have h' := h
      rw [← Array.getElem?_toList, q] at h'
      cases h'
      rfl
theorem pv_indexS {fo fe : Γ → Option Tx} (ho : PV X sl .b o fo) (he : PV X sl .b e fe) (hs : starEach [e] X.env = [(false, eval e X.env)] := by rfl) (hbase : attributeBase o "index" X.env (eval o X.env) = eval o X.env := by rfl) (hline : (apos.endLine == pos.line) = true := by rfl) :
    PV X sl .a (.Call (.Attribute o "index" apos) [e] [] pos) (fun s => (fo s).bind fun x => (fe s).bind fun y => tIndex x y) :=
  PE.imp (pe_m1 PySem.F.slot_str_index PySem.F.type_str_index mt_sindex ho he hs hbase hline) fun σ H Q ⟨γ, S0, S, t, E, hf, q⟩ => by
    obtain ⟨u, w, h1, h2, h3⟩ := bind2 hf
    refine ⟨γ, S0, S, u, E, h1, fun x H1 s1 r1 => ⟨⟨_, rb_t r1⟩, γ, S0, S, w, E.same s1, h2, fun y H2 s2 r2 => ?_⟩⟩
    obtain ⟨ucs⟩ := u
    obtain ⟨wcs⟩ := w
    unfold tIndex at h3
    rcases wcs with _ | ⟨c, _ | _⟩
    · cases h3
    · simp only at h3
      cases e5 : fIx c ucs 0 with
      | none => rw [e5] at h3; cases h3
      | some k =>
        rw [e5] at h3
        cases h3
        obtain ⟨i, e6, g1, g2⟩ := fIx_spec e5
        rw [Nat.zero_add] at e6
        subst e6
        obtain ⟨r, g3⟩ := occ_fst g1 g2
        exact ⟨_, _, k, r, rb_t r1, by rw [rb_t r2], g3, q _ H2 (s1.trans s2) rfl⟩
    · cases h3
/-- membership of one sign -/
def tIn (y x : Tx) : Option Bool := match y.cs with
  | [c] => some (decide (c ∈ x.cs))
  | _ => none
def c_inT : Cmp X .In Tx Tx (fun y x => tIn y x) := ⟨_, op_in_str, fun T H x y u w t Q hT r1 r2 e q => by
  obtain ⟨ucs⟩ := u
  obtain ⟨wcs⟩ := w
  unfold tIn at e
  rcases ucs with _ | ⟨c, _ | _⟩
  · cases e
  · cases e
    refine ⟨_, _, rb_t r1, rb_t r2, q _ H (Same.refl H) ?_⟩
    exact congrArg V.bl (StrLaws.found_one ⟨wcs.toArray⟩ c)
  · cases e⟩

def c_ninT : Cmp X .NotIn Tx Tx (fun y x => (tIn y x).map (!·)) := ⟨_, op_notin_str, fun T H x y u w t Q hT r1 r2 e q => by
  obtain ⟨ucs⟩ := u
  obtain ⟨wcs⟩ := w
  unfold tIn at e
  rcases ucs with _ | ⟨c, _ | _⟩
  · cases e
  · cases e
    refine ⟨_, _, rb_t r1, rb_t r2, q _ H (Same.refl H) ?_⟩
    exact congrArg (fun z => V.bl (!z)) (StrLaws.found_one ⟨wcs.toArray⟩ c)
  · cases e⟩
/-- one sign, many times -/
def tRep (x : Tx) (n : Int) : Option Tx := match x.cs with
  | [c] => if -(2 ^ 62) ≤ n ∧ n ≤ 16777216 then some ⟨List.replicate n.toNat c⟩ else none
  | _ => none
theorem op_repT1 : OpR X (binaryOp .Mult) (fun x y H Q => ∃ (c : Nat) (n : Int), x = .str ⟨#[c]⟩ ∧ y = .int n ∧ -(2 ^ 62) ≤ n ∧ n ≤ 16777216 ∧ Q (.str (SX.S (List.replicate n.toNat c))) H) := by
  intro pins s σ H x y v u Q I rx ry h
  obtain ⟨c, n, rfl, rfl, h1, h2, q⟩ := h
  obtain ⟨t, rfl⟩ := rx
  obtain ⟨t2, rfl⟩ := ry
  refine SB.mul ⟨?_, fun h3 h4 => ?_, fun h3 h4 => ?_⟩ fun t' k => ⟨.str _, H, I.tok _, ⟨t', ?_⟩, q⟩
  · rw [Bool.or_eq_false_iff]; exact ⟨decide_eq_false (by omega), decide_eq_false (by omega)⟩
  · show ¬ (((1 : Nat) : Int) > (2 ^ 63 - 1) / n)
    have : (1 : Int) ≤ (2 ^ 63 - 1) / n := (Int.le_ediv_iff_mul_le (by omega)).mpr (by omega)
    omega
  · show Builtin.Str.tooLong (1 * n.toNat) = false
    unfold Builtin.Str.tooLong
    exact decide_eq_false (by rw [show sizeLine = 16777216 by decide]; omega)
  · have := PyProof.Rows.mul_one_list c n
    congr 1
    rw [← this]
theorem pv_repS {a b : Expr} {fa : Γ → Option Tx} {fb : Γ → Option Int} (ha : PV X sl .b a fa) (hb : PV X sl .b b fb) : PV X sl .a (.BinOp a .Mult b pos) (fun s => (fa s).bind fun x => (fb s).bind fun y => tRep x y) :=
  pv_2 (pe_op op_repT1) (fun T H x y u w t Q hT r1 r2 e q => by
    obtain ⟨ucs⟩ := u
    unfold tRep at e
    rcases ucs with _ | ⟨c, _ | _⟩
    · cases e
    · simp only at e
      obtain ⟨⟨h1, h2⟩, rfl⟩ := if_some e
      exact ⟨c, w, by rw [rb_t r1], rb_i r2, h1, h2, q _ H (Same.refl H) rfl⟩
    · cases e) ha hb
end PL

/-! PL14: several names at once, one of them a new list or dict. -/
namespace PL
open PySem PySem.Spec L2
open Enc (enc)
variable {Γ Γ' ρ τ α β γ' : Type} {X : Cx} {sl : Γ → Sl} {sl' : Γ' → Sl} {a b c e o i : Expr} {pos apos : Pos} {kr : Kd}
theorem Fr.fwd {K : PySem.W.Frag} {H H1 H2 : Hp} {T : Ad} {d : PyData} {v : V} (h : Fr K H H1 T d v) (s : Same H1 H2) : Fr K H H2 T d v := by
  obtain ⟨p, rfl, hp, ⟨ds, xs, rfl, h1, h2⟩ | ⟨ds, xs, rfl, h1, h2⟩⟩ := h
  · exact ⟨p, rfl, hp, .inl ⟨ds, xs, rfl, s _ _ h1, h2.mv (.same s)⟩⟩
  · exact ⟨p, rfl, hp, .inr ⟨ds, xs, rfl, s _ _ h1, RpK.mv (.same s) _ _ h2⟩⟩
/-- the variables as they are, while a new object waits -/
theorem EnvS.wait {K : PySem.W.Frag} {S0 S : Ad} {H H' : Hp} {l : Sl} {σ : L2.St} {d : PyData} {v : V} (E : EnvS K S0 S H l σ) (s : Same H H') (r : Fr K H H' (un S S0) d v) : ∃ p, v = .ref p ∧ Mv S H (wi S p) H' ∧ EnvS K S0 (wi S p) H' l σ := by
  obtain ⟨p, e, m, q⟩ := E.seto' (i := l.length) s r
  rw [List.set_eq_of_length_le (Nat.le_refl _), List.set_eq_of_length_le (by rw [E.len]; exact Nat.le_refl _)] at q
  exact ⟨p, e, m, q⟩
theorem sv_par3_aoa [Enc ρ] [Enc α] [Enc β] [Enc γ'] {i j l : Nat} {x y z : Str} {px py pz pt : Pos} {kt k2 : Nat} {pt2 : Pos} {fa : Γ → Option α} {fb : Γ → Option β} {fc : Γ → Option γ'} (set : Γ → α → β → γ' → Γ') (h : ∀ g t u v, sl' (set g t u v) = (((sl g).set i (some (.a, enc t))).set j (some (.o, enc u))).set l (some (.a, enc v)))
    (hN : X.N.Nodup) (ha : PV X sl .a a fa) (hb : PV X sl .f b fb) (hc' : PV X sl .a c fc) (hij : i ≠ j := by decide) (hil : i ≠ l := by decide) (hjl : j ≠ l := by decide) (hi : X.N[i]? = some x := by rfl) (hj : X.N[j]? = some y := by rfl) (hl : X.N[l]? = some z := by rfl)
    (hx : X.env.scope.names.lookup x = some .local := by rfl) (hy : X.env.scope.names.lookup y = some .local := by rfl) (hz : X.env.scope.names.lookup z = some .local := by rfl) (hc : X.calm = true := by rfl)
    (h1 : starEach [a, b, c] X.env = (false, eval a X.env) :: starEach [b, c] X.env := by rfl) (h2 : starEach [b, c] X.env = (false, eval b X.env) :: starEach [c] X.env := by rfl) (h3 : starEach [c] X.env = (false, eval c X.env) :: starEach [] X.env := by rfl)
    (hw : swappedStores [.Tuple [.Name x px, .Name y py, .Name z pz] kt pt] (.Tuple [a, b, c] k2 pt2) X.env = pure (some [x, y, z]) := by rfl)
    (hs : swapsWithSole [.Tuple [.Name x px, .Name y py, .Name z pz] kt pt] (.Tuple [a, b, c] k2 pt2) pos.line X.env = pure false := by rfl) :
    SV (ρ := ρ) X sl sl' kr (.Assign [.Tuple [.Name x px, .Name y py, .Name z pz] kt pt] (.Tuple [a, b, c] k2 pt2) pos) (fun g => (fa g).bind fun t => (fb g).bind fun u => (fc g).bind fun v => some (.nx (set g t u v))) :=
  PS.imp (ps_par3 hc hN hi hj hl hij hil hjl hx hy hz (pa_cons ha (pa_cons hb (pa_cons hc' pa_nil h3) h2) h1) hw hs) fun D σ H ⟨γ, S0, S, o, E, hf, p⟩ => by
    obtain ⟨t, u, e1, e2, e3⟩ := bind2 hf
    obtain ⟨v, e4, e5⟩ := bind1 e3
    cases e5
    refine ⟨γ, S0, S, t, E, e1, fun v1 H1 s1 r1 => ⟨γ, S0, S, u, E.same s1, e2, fun v2 H2 s2 r2 => ?_⟩⟩
    have E1 := E.same s1
    obtain ⟨p2, q2, m2, E2⟩ := E1.wait s2 r2
    refine ⟨γ, S0, _, v, E2, e4, fun v3 H3 s3 r3 => ⟨v1, v2, v3, rfl, ?_⟩⟩
    have s23 := s2.trans s3
    obtain ⟨p3, q3, m3, E3⟩ := (E1.seta (i := i) r1).seto' (i := j) s23 (r2.fwd s3)
    have e : p2 = p3 := by
      have := q2.symm.trans q3
      injection this
    subst e
    refine p _ _ _ ?_ ((Mv.same s1).trans m3)
    rw [h]
    exact E3.seta r3
theorem sv_par3_oaa [Enc ρ] [Enc α] [Enc β] [Enc γ'] {i j l : Nat} {x y z : Str} {px py pz pt : Pos} {kt k2 : Nat} {pt2 : Pos} {fa : Γ → Option α} {fb : Γ → Option β} {fc : Γ → Option γ'} (set : Γ → α → β → γ' → Γ') (h : ∀ g t u v, sl' (set g t u v) = (((sl g).set i (some (.o, enc t))).set j (some (.a, enc u))).set l (some (.a, enc v)))
    (hN : X.N.Nodup) (ha : PV X sl .f a fa) (hb : PV X sl .a b fb) (hc' : PV X sl .a c fc) (hij : i ≠ j := by decide) (hil : i ≠ l := by decide) (hjl : j ≠ l := by decide) (hi : X.N[i]? = some x := by rfl) (hj : X.N[j]? = some y := by rfl) (hl : X.N[l]? = some z := by rfl)
    (hx : X.env.scope.names.lookup x = some .local := by rfl) (hy : X.env.scope.names.lookup y = some .local := by rfl) (hz : X.env.scope.names.lookup z = some .local := by rfl) (hc : X.calm = true := by rfl)
    (h1 : starEach [a, b, c] X.env = (false, eval a X.env) :: starEach [b, c] X.env := by rfl) (h2 : starEach [b, c] X.env = (false, eval b X.env) :: starEach [c] X.env := by rfl) (h3 : starEach [c] X.env = (false, eval c X.env) :: starEach [] X.env := by rfl)
    (hw : swappedStores [.Tuple [.Name x px, .Name y py, .Name z pz] kt pt] (.Tuple [a, b, c] k2 pt2) X.env = pure (some [x, y, z]) := by rfl)
    (hs : swapsWithSole [.Tuple [.Name x px, .Name y py, .Name z pz] kt pt] (.Tuple [a, b, c] k2 pt2) pos.line X.env = pure false := by rfl) :
    SV (ρ := ρ) X sl sl' kr (.Assign [.Tuple [.Name x px, .Name y py, .Name z pz] kt pt] (.Tuple [a, b, c] k2 pt2) pos) (fun g => (fa g).bind fun t => (fb g).bind fun u => (fc g).bind fun v => some (.nx (set g t u v))) :=
  PS.imp (ps_par3 hc hN hi hj hl hij hil hjl hx hy hz (pa_cons ha (pa_cons hb (pa_cons hc' pa_nil h3) h2) h1) hw hs) fun D σ H ⟨γ, S0, S, o, E, hf, p⟩ => by
    obtain ⟨t, u, e1, e2, e3⟩ := bind2 hf
    obtain ⟨v, e4, e5⟩ := bind1 e3
    cases e5
    refine ⟨γ, S0, S, t, E, e1, fun v1 H1 s1 r1 => ?_⟩
    obtain ⟨p2, q2, m2, E2⟩ := E.wait s1 r1
    refine ⟨γ, S0, _, u, E2, e2, fun v2 H2 s2 r2 => ⟨γ, S0, _, v, E2.same s2, e4, fun v3 H3 s3 r3 => ⟨v1, v2, v3, rfl, ?_⟩⟩⟩
    have s23 := s2.trans s3
    obtain ⟨p3, q3, m3, E3⟩ := E.seto' (i := i) (s1.trans s23) (r1.fwd s23)
    have e : p2 = p3 := by
      have := q2.symm.trans q3
      injection this
    subst e
    refine p _ _ _ ?_ m3
    rw [h]
    exact (E3.seta (Rp.mv (.same s3) _ _ r2)).seta r3
theorem sv_par_oa [Enc ρ] [Enc α] [Enc β] {i j : Nat} {x y : Str} {px py pt : Pos} {kt k2 : Nat} {pt2 : Pos} {fa : Γ → Option α} {fb : Γ → Option β} (set : Γ → α → β → Γ') (h : ∀ g t u, sl' (set g t u) = ((sl g).set i (some (.o, enc t))).set j (some (.a, enc u)))
    (hN : X.N.Nodup) (ha : PV X sl .f a fa) (hb : PV X sl .a b fb) (hij : i ≠ j := by decide) (hi : X.N[i]? = some x := by rfl) (hj : X.N[j]? = some y := by rfl) (hx : X.env.scope.names.lookup x = some .local := by rfl) (hy : X.env.scope.names.lookup y = some .local := by rfl) (hc : X.calm = true := by rfl)
    (h1 : starEach [a, b] X.env = (false, eval a X.env) :: starEach [b] X.env := by rfl) (h2 : starEach [b] X.env = (false, eval b X.env) :: starEach [] X.env := by rfl)
    (hw : swappedStores [.Tuple [.Name x px, .Name y py] kt pt] (.Tuple [a, b] k2 pt2) X.env = pure (some [x, y]) := by rfl)
    (hs : swapsWithSole [.Tuple [.Name x px, .Name y py] kt pt] (.Tuple [a, b] k2 pt2) pos.line X.env = pure false := by rfl) :
    SV (ρ := ρ) X sl sl' kr (.Assign [.Tuple [.Name x px, .Name y py] kt pt] (.Tuple [a, b] k2 pt2) pos) (fun g => (fa g).bind fun t => (fb g).bind fun u => some (.nx (set g t u))) :=
  PS.imp (ps_par hc hN hi hj hij hx hy (pa_cons ha (pa_cons hb pa_nil h2) h1) hw hs) fun D σ H ⟨γ, S0, S, o, E, hf, p⟩ => by
    obtain ⟨t, u, e1, e2, e3⟩ := bind2 hf
    cases e3
    refine ⟨γ, S0, S, t, E, e1, fun v H1 s1 r1 => ?_⟩
    obtain ⟨p2, q2, m2, E2⟩ := E.wait s1 r1
    refine ⟨γ, S0, _, u, E2, e2, fun w H2 s2 r2 => ⟨v, w, rfl, ?_⟩⟩
    obtain ⟨p3, q3, m3, E3⟩ := E.seto' (i := i) (s1.trans s2) (r1.fwd s2)
    have e : p2 = p3 := by
      have := q2.symm.trans q3
      injection this
    subst e
    refine p _ _ _ ?_ m3
    rw [h]
    exact E3.seta r2
end PL

/-! PL15: the place in a list of ints. -/
namespace PL
open PySem PySem.Spec L2
open Enc (enc)
variable {Γ : Type} {X : Cx} {sl : Γ → Sl} {e o : Expr} {apos cpos : Pos}
def fIxI (c : Int) : List Int → Nat → Option Nat
  | [], _ => none
  | d :: l, n => if d = c then some n else fIxI c l (n + 1)
def lIndex (x : List Int) (y : Int) : Option Int := (fIxI y x 0).map fun n => (n : Int)
theorem fIxI_spec {c : Int} : ∀ {l : List Int} {n k : Nat}, fIxI c l n = some k → ∃ i, k = n + i ∧ l[i]? = some c ∧ ∀ j, j < i → l[j]? ≠ some c
  | [], n, k, h => by cases h
  | d :: l, n, k, h => by
    unfold fIxI at h
    by_cases e : d = c
    · rw [if_pos e] at h; cases h
      exact ⟨0, rfl, by rw [e]; rfl, fun j hj => by omega⟩
    · rw [if_neg e] at h
      obtain ⟨i, h1, h2, h3⟩ := fIxI_spec h
      refine ⟨i + 1, by omega, by simpa using h2, fun j hj => ?_⟩
      cases j with
      | zero => intro z; exact e (by simpa using z)
      | succ j => have := h3 j (by omega); simpa using this
theorem pv_index {fo : Γ → Option (List Int)} {fe : Γ → Option Int} (ho : PV X sl .b o fo) (he : PV X sl .b e fe)
    (hbase : attributeBase o "index" X.env (eval o X.env) = eval o X.env := by rfl)
    (hfew : ((backTo cpos (starEach [e] X.env)).all (fun x => !x.1) && (backToKw cpos (keywordEach [] X.env)).all (fun x => x.1.isSome)
      && decide ([e].length + ([] : List Keyword).length + (if ([] : List Keyword).isEmpty then 0 else 1) < 30)) = true := by rfl)
    (hline : (apos.endLine == cpos.line) = true := by rfl) (hs1 : starEach [e] X.env = (false, eval e X.env) :: starEach [] X.env := by rfl) (hplain : (backTo cpos (starEach [] X.env)).any (·.1) = false := by rfl) :
    PV X sl .a (.Call (.Attribute o "index" apos) [e] [] cpos) (fun s => (fo s).bind fun x => (fe s).bind fun y => lIndex x y) :=
  PE.imp (pe_bm PySem.F.plainAttrs_list PySem.F.slot_list_index PySem.F.type_list_index mt_index ho (pa_cons he pa_nil hs1) hbase hfew hline hs1 hplain) fun σ H Q ⟨γ, S0, S, t, E, hf, q⟩ => by
    obtain ⟨u, w, h1, h2, h3⟩ := bind2 hf
    refine ⟨γ, S0, S, u, E, h1, fun x H1 s1 r1 => ?_⟩
    obtain ⟨a, xs, rfl, g1, g2⟩ := rb_l r1
    refine ⟨.inl ⟨rfl, xs, g1⟩, γ, S0, S, w, E.same s1, h2, fun y H2 s2 r2 => ?_⟩
    cases e5 : fIxI w u 0 with
    | none => unfold lIndex at h3; rw [e5] at h3; cases h3
    | some k =>
      unfold lIndex at h3
      rw [e5] at h3
      cases h3
      obtain ⟨i, e6, g3, g4⟩ := fIxI_spec e5
      rw [Nat.zero_add] at e6
      subst e6
      obtain rfl := rpa_int g2
      obtain rfl := rb_i r2
      refine ⟨a, _, .int w, k, .int w, rfl, rfl, s2.seq g1, rfl, ?_, by rw [List.getElem?_map, g3]; rfl, ?_, fun m z' hm hz => ?_, q _ H2 (s1.trans s2) rfl⟩
      · rw [List.all_eq_true]
        intro v hv
        obtain ⟨i, _, rfl⟩ := List.mem_map.mp hv
        rfl
      · simp [eqV]
      · rw [List.getElem?_map] at hz
        cases e7 : u[m]? with
        | none => rw [e7] at hz; cases hz
        | some i =>
          rw [e7] at hz
          cases hz
          have : i ≠ w := fun z => g4 m hm (by rw [e7, z])
          simp [eqV, this]
end PL

/-! PL16: x, y, z = (a, new, c), through a tuple. -/
namespace PL
open PySem PySem.Spec L2
open Enc (enc)
variable {Γ Γ' ρ τ α β γ' : Type} {X : Cx} {sl : Γ → Sl} {sl' : Γ' → Sl} {a b c : Expr} {pos : Pos} {kr : Kd}
theorem sv_tup3_aoa [Enc ρ] [Enc α] [Enc β] [Enc γ'] {i j l : Nat} {x y z : Str} {px py pz pt : Pos} {kt k2 : Nat} {pt2 : Pos} {fa : Γ → Option α} {fb : Γ → Option β} {fc : Γ → Option γ'} (set : Γ → α → β → γ' → Γ') (h : ∀ g t u v, sl' (set g t u v) = (((sl g).set i (some (.a, enc t))).set j (some (.o, enc u))).set l (some (.a, enc v)))
    (hN : X.N.Nodup) (ha : PV X sl .a a fa) (hb : PV X sl .f b fb) (hc' : PV X sl .a c fc) (hi : X.N[i]? = some x := by rfl) (hj : X.N[j]? = some y := by rfl) (hl : X.N[l]? = some z := by rfl)
    (hx : Loc X.env.scope x := by first | exact .inl rfl | exact .inr rfl) (hy : Loc X.env.scope y := by first | exact .inl rfl | exact .inr rfl) (hz : Loc X.env.scope z := by first | exact .inl rfl | exact .inr rfl)
    (fx : X.fn x = true ∨ X.env.scope.names.lookup x = some .local := by first | exact .inl rfl | exact .inr rfl) (fy : X.fn y = true ∨ X.env.scope.names.lookup y = some .local := by first | exact .inl rfl | exact .inr rfl) (fz : X.fn z = true ∨ X.env.scope.names.lookup z = some .local := by first | exact .inl rfl | exact .inr rfl) (hc : X.calm = true := by rfl)
    (h1 : starEach [a, b, c] X.env = (false, eval a X.env) :: starEach [b, c] X.env := by rfl) (h2 : starEach [b, c] X.env = (false, eval b X.env) :: starEach [c] X.env := by rfl) (h3 : starEach [c] X.env = (false, eval c X.env) :: starEach [] X.env := by rfl)
    (hs : swapsWithSole [.Tuple [.Name x px, .Name y py, .Name z pz] kt pt] (.Tuple [a, b, c] k2 pt2) pos.line X.env = pure false := by rfl)
    (hw : swappedStores [.Tuple [.Name x px, .Name y py, .Name z pz] kt pt] (.Tuple [a, b, c] k2 pt2) X.env = pure none := by rfl)
    (q1 : (assignEach [.Tuple [.Name x px, .Name y py, .Name z pz] kt pt] X.env).map (·.2) = [assign (.Tuple [.Name x px, .Name y py, .Name z pz] kt pt) X.env] := by rfl)
    (q2 : (assignEach [.Name x px, .Name y py, .Name z pz] X.env).length = 3 := by rfl) (q3 : (assignEach [.Name x px, .Name y py, .Name z pz] X.env).findIdx? (·.1) = none := by rfl)
    (q4 : (assignEach [.Name x px, .Name y py, .Name z pz] X.env).map (·.2) = assign (.Name x px) X.env :: (assignEach [.Name y py, .Name z pz] X.env).map (·.2) := by rfl)
    (q5 : (assignEach [.Name y py, .Name z pz] X.env).map (·.2) = assign (.Name y py) X.env :: (assignEach [.Name z pz] X.env).map (·.2) := by rfl)
    (q6 : (assignEach [.Name z pz] X.env).map (·.2) = assign (.Name z pz) X.env :: (assignEach [] X.env).map (·.2) := by rfl) :
    SV (ρ := ρ) X sl sl' kr (.Assign [.Tuple [.Name x px, .Name y py, .Name z pz] kt pt] (.Tuple [a, b, c] k2 pt2) pos) (fun g => (fa g).bind fun t => (fb g).bind fun u => (fc g).bind fun v => some (.nx (set g t u v))) :=
  PS.imp (ps_asg (pe_tup (pa_cons ha (pa_cons hb (pa_cons hc' pa_nil h3) h2) h1)) (pg_tup hc (pgs_cons (pg_name hN hi hx fx) (pgs_cons (pg_name hN hj hy fy) (pgs_cons (pg_name hN hl hz fz) pgs_nil q6) q5) q4) q2 q3) hs hw q1) fun D σ H ⟨γ, S0, S, o, E, hf, p⟩ => by
    obtain ⟨t, u, e1, e2, e3⟩ := bind2 hf
    obtain ⟨v, e4, e5⟩ := bind1 e3
    cases e5
    refine ⟨γ, S0, S, t, E, e1, fun v1 H1 s1 r1 => ⟨γ, S0, S, u, E.same s1, e2, fun v2 H2 s2 r2 => ?_⟩⟩
    have E1 := E.same s1
    obtain ⟨p2, g2, m2, E2⟩ := E1.wait s2 r2
    refine ⟨γ, S0, _, v, E2, e4, fun v3 H3 s3 r3 => ⟨by show 3 ≤ sizeLine; decide, fun q hq => ?_⟩⟩
    have s4 := same_new (o := .tup [v1, v2, v3]) hq
    have s34 := s3.trans s4
    have s24 := s2.trans s34
    obtain ⟨p3, g3, m3, E3⟩ := (E1.seta (i := i) r1).seto' (i := j) s24 (r2.fwd s34)
    have e : p2 = p3 := by
      have := g2.symm.trans g3
      injection this
    subst e
    refine ⟨q, [v1, v2, v3], rfl, .of upd_same, rfl, v1, _, rfl, v2, _, rfl, v3, _, rfl, rfl, ?_⟩
    refine p _ _ _ ?_ ((Mv.same s1).trans m3)
    rw [h]
    exact E3.seta (Rp.mv (.same s4) _ _ r3)
end PL

/-! PL17: tuple of a tuple, constants that are tuples, in of tuples. -/
namespace PL
open PySem PySem.Spec L2
open Enc (enc)
variable {Γ Γ' ρ τ α β σ' : Type} {X : Cx} {sl : Γ → Sl} {e a b c : Expr} {k : Kd} {pos p : Pos}
theorem pv_tupleT [Enc τ] [NoL τ] {fa : Γ → Option τ} (ds : τ → List PyData) (hd : ∀ t, enc t = .tuple (ds t)) (hg : Gl X "tuple") (hm : X.mg "tuple" = none) (ha : PV X sl .b a fa) (he : starEach [a] X.env = (false, eval a X.env) :: starEach [] X.env := by rfl) :
    PV X sl .a (.Call (.Name "tuple" p) [a] [] pos) (fun s => (fa s).bind fun x => some x) :=
  pv_c1 (fun h => pe_callTy call_tuple_of hg hm (by decide +kernel) (pa_cons h pa_nil he) (he := he)) (fun T H x u t Q hT r e q => by
    cases e
    have r2 : Rp X.K H T (enc u) x := Rb.rp r
    rw [hd u] at r
    obtain ⟨p, xs, rfl, h1, h2⟩ := rb_tup r
    exact ⟨p, xs, rfl, .inr ⟨h1, q _ H (Same.refl H) r2⟩⟩) ha
/-- a constant of the top that is a tuple of flat things -/
theorem pv_gtup [Enc τ] {x : Str} {ad : Addr} {xs : List V} (t : τ) (ds : List PyData) (hd : enc t = .tuple ds) (hr : ∀ H T, RpA X.K H T ds xs) (hg : Gl X x) (hm : X.mg x = some (.ref ad)) (hk : KTp X.K ad xs) (hb : (x == ("__debug__" : Str)) = false := by decide) : PV X sl .a (.Name x pos) (fun _ => some t) :=
  PE.imp (pe_glob hg hm (v := .ref ad) rfl hb) fun σ H Q ⟨g, S0, S, t', E, hf, q⟩ => by
    cases hf
    refine q _ H (Same.refl H) ?_
    show Rp X.K H _ (enc t) (.ref ad)
    rw [hd]
    exact ⟨ad, xs, rfl, .inr hk, hr H _⟩
class FlV (τ : Type) [Enc τ] [Sc τ] [DecidableEq τ] : Prop where
  fl : ∀ t : τ, flatV (Sc.val t) = true
  eq : ∀ s t : τ, eqV (Sc.val s) (Sc.val t) = decide (s = t)
instance : FlV Int := ⟨fun _ => rfl, fun s t => by show (s == t) = decide (s = t); exact Bool.beq_eq_decide_eq s t⟩
instance : FlV Tx := ⟨fun _ => rfl, fun s t => by
  show ((⟨s.cs.toArray⟩ : Str) == (⟨t.cs.toArray⟩ : Str)) = decide (s = t)
  rw [Bool.eq_iff_iff, beq_iff_eq, decide_eq_true_iff]
  constructor
  · intro e
    exact Sc.inj s t (congrArg V.str e)
  · intro e; rw [e]⟩
section
variable [Enc τ] [Sc τ] [DecidableEq τ] [FlV τ] [Enc σ']
theorem rpa_sc {K : PySem.W.Frag} {H : Hp} {T : Ad} : ∀ {t : List τ} {xs : List V}, RpA K H T (t.map enc) xs → xs = t.map Sc.val
  | [], xs, h => h
  | a :: t, xs, h => by
    obtain ⟨v, vs, rfl, h1, h2⟩ := h
    rw [List.map_cons, rpa_sc h2, Sc.rp (.inl h1)]
theorem inV_sc (x : τ) : ∀ t : List τ, inV (Sc.val x) (t.map Sc.val) = decide (x ∈ t)
  | [] => by simp [inV]
  | a :: t => by
    have := inV_sc x t
    unfold inV at this ⊢
    rw [List.map_cons, List.any_cons, this, FlV.eq]
    by_cases h : x = a
    · subst h; simp
    · simp [h, Ne.symm h]
theorem flat_sc (t : List τ) : (t.map Sc.val).all flatV = true := by
  rw [List.all_eq_true]
  intro v hv
  obtain ⟨x, _, rfl⟩ := List.mem_map.mp hv
  exact FlV.fl x
def c_inU (ds : σ' → List τ) (hd : ∀ t, enc t = .tuple ((ds t).map enc)) : Cmp X .In τ σ' (fun x y => some (decide (x ∈ ds y))) := ⟨_, op_in_seq, fun T H x y u w t Q hT r1 r2 e q => by
  cases e
  rw [hd w] at r2
  obtain ⟨p, xs, rfl, h1, h2⟩ := rb_tup r2
  rw [Sc.rp r1]
  rw [rpa_sc h2] at h1
  exact ⟨p, _, rfl, .inr h1, FlV.fl u, flat_sc _, q _ H (Same.refl H) (by rw [inV_sc]; rfl)⟩⟩
def c_ninU (ds : σ' → List τ) (hd : ∀ t, enc t = .tuple ((ds t).map enc)) : Cmp X .NotIn τ σ' (fun x y => some (!decide (x ∈ ds y))) := ⟨_, op_notIn_seq, fun T H x y u w t Q hT r1 r2 e q => by
  cases e
  rw [hd w] at r2
  obtain ⟨p, xs, rfl, h1, h2⟩ := rb_tup r2
  rw [Sc.rp r1]
  rw [rpa_sc h2] at h1
  exact ⟨p, _, rfl, .inr h1, FlV.fl u, flat_sc _, q _ H (Same.refl H) (by rw [inV_sc]; rfl)⟩⟩
end
def c_isB : Cmp X .Is Bool Bool (fun x y => some (decide (x = y))) := ⟨_, op_isBl, fun T H x y u w t Q hT r1 r2 e q => by
  cases e
  exact ⟨u, w, Sc.rp r1, Sc.rp r2, q _ H (Same.refl H) rfl⟩⟩
def c_isntB : Cmp X .IsNot Bool Bool (fun x y => some (!decide (x = y))) := ⟨_, op_notBl, fun T H x y u w t Q hT r1 r2 e q => by
  cases e
  exact ⟨u, w, Sc.rp r1, Sc.rp r2, q _ H (Same.refl H) rfl⟩⟩
end PL

/-! PL18: enumerate of a text and of a tuple; walks over tuples. -/
namespace PL
open PySem PySem.Spec L2 PyProof.Rows
open Enc (enc)
/-- the signs of a text, each in a new pair -/
def ItS (x : Str) : It :=
  ⟨fun i _ => i < x.cps.size, fun i H v H' => ∃ T c, v = .ref T ∧ H T = none ∧ H' = upd H T (.tup [.int (i : Nat), .str ⟨#[c]⟩]) ∧ x.cps[i]? = some c, fun i _ => x.cps.size ≤ i⟩
theorem turn_enumS {P : Program} {w : World} {K : PySem.W.Frag} {elts : List Expr} {kk : Nat} {tpos : Pos} (e it : Addr) (x : Str) (t : Tok) :
    Turn P w K (.Tuple elts kk tpos) (ItS x) [e, it] e (fun i h => (∃ old, IsEnum h e it ((i : Nat) : Int) old) ∧ h.IsStrIter it (strIterType x) x t i ∧ e ≠ it) where
  mem := by simp
  obj := fun i h st b hb => by
    obtain ⟨⟨old, he⟩, ⟨o, ho, hc, hd⟩, _⟩ := st
    have e' : b = e ∨ b = it := by simpa using hb
    rcases e' with z | z
    · rw [z]; exact ⟨_, he, fun v q => nomatch q⟩
    · rw [z]; exact ⟨o, ho, fun v q => by rw [hd] at q; cases q⟩
  keep := fun i h h' st k => by
    obtain ⟨⟨old, he⟩, ⟨o, ho, r⟩, hne⟩ := st
    exact ⟨⟨old, k e (by simp) _ he⟩, ⟨o, k it (by simp) o ho, r⟩, hne⟩
  item := by
    intro X hP hw hK hc i pins s σ H E I hf st hg
    subst hP hw hK
    obtain ⟨⟨old, he⟩, hit, hne⟩ := st
    have hel : e < s.heap.objs.size := Heap.lt_size he
    have hil : it < s.heap.objs.size := by obtain ⟨_, q, _⟩ := hit; exact Heap.lt_size q
    refine wpAny_pyNext_enum_itemD (Draws.text (A := X.A.in1) (I.ok.hd hc) it x t) he hit hg hne (by simp [hne]) fun u h' tk hu ho hit' hT hsz hk => ?_
    obtain ⟨c, t2, hc2, rfl⟩ := hu
    refine ⟨_, rfl, wpAny_letOwnedTupleGo_enum (s := { s with heap := h', toks := tk + 1 }) ho fun h'' he' sb => ?_⟩
    have hT2 : h''.get? s.heap.objs.size = some { cls := .type "tuple", data := .seq #[.int i tk, .str ⟨#[c]⟩ t2] } := (sb.2 _ (Nat.ne_of_gt hel)).trans hT
    have new : ObjOk X.prog X.w (upd H s.heap.objs.size (.tup [.int (i : Nat), .str ⟨#[c]⟩])) h'' s.heap.objs.size (.tup [.int (i : Nat), .str ⟨#[c]⟩]) :=
      ⟨by show 2 ≤ sizeLine; decide, [.int i tk, .str ⟨#[c]⟩ t2], .cons ⟨_, rfl⟩ (.cons ⟨_, rfl⟩ .nil), ⟨_, hT2, rfl, _, rfl⟩⟩
    have I1 : Inv X pins σ (upd H s.heap.objs.size (.tup [.int (i : Nat), .str ⟨#[c]⟩])) { s with heap := h'', toks := tk + 1 } :=
      I.turnedNew (ch := [e, it]) (fun b ob hb q => (sb.2 b (fun z => hb (by simp [z]))).trans (hk b ob (fun z => hb (by simp [z])) (fun z => hb (by simp [z])) q)) hf (Nat.le_refl _) new
    refine ⟨.ref s.heap.objs.size, _, I1, rfl, ⟨_, c, rfl, I.hok.fresh (Nat.le_refl _), rfl, hc2⟩, ⟨⟨.str ⟨#[c]⟩ t2, ?_⟩, ?_, hne⟩, fun b hb => ?_⟩
    · have e1 : ((i + 1 : Nat) : Int) = (i : Int) + 1 := by omega
      rw [e1]; exact he'
    · obtain ⟨o, ho2, r⟩ := hit'
      exact ⟨o, (sb.2 it (Ne.symm hne)).trans ho2, r⟩
    · have hb' : b < s.heap.objs.size := by
        have e' : b = e ∨ b = it := by simpa using hb
        rcases e' with z | z
        · rw [z]; exact hel
        · rw [z]; exact hil
      rw [upd_ne (Nat.ne_of_lt hb')]
      exact (hf b hb).1
  done := by
    intro X hP hw hK hc i pins s σ H E I hf st hg
    subst hP hw hK
    obtain ⟨⟨old, he⟩, hit, hne⟩ := st
    obtain ⟨f0, f1, f2, f3, f4, f5⟩ := hf it (by simp)
    have hx : x.cps[i]? = none := Array.getElem?_eq_none hg
    have D : Draws X.prog X.w X.A.in1 it [it] 0 (fun _ _ => True) (fun _ h => h.IsStrIter it (strIterType x) x t i) := {
      live := fun _ h st => let ⟨o, ho, _⟩ := st; ⟨o, ho⟩
      frame := fun _ h h' st k => let ⟨o, ho, r⟩ := st; ⟨o, k it (by simp) o ho, r⟩
      item := fun j s Q E hj => absurd hj (Nat.not_lt_zero _)
      done := fun s Q E st hE => by
        cases ha : x.cps.all (· < 128)
        · simp only [strIterType, ha, Bool.false_eq_true, if_false] at st
          exact wpAny_nextOf_wide_end (I.ok.hd hc) st hx hE
        · simp only [strIterType, ha, if_true] at st
          exact wpAny_nextOf_ascii_end (I.ok.hd hc) st hx hE }
    exact wpAny_pyNext_enum_endD D he hit fun h' eb => ⟨rfl, I.turned (t' := s.toks) (fun b o hb q => eb b o hb q) f0 f1 f3 f4 f5⟩
  self := fun A i s Q E st h => let ⟨⟨_, he⟩, _⟩ := st; wpAny_pyIter_enum he h
def iEnumS (ta : TA) : TI := fun σ H R => ta σ H fun vs H1 => ∃ x, vs = [.str x] ∧ R (ItS x) H1
theorem pi_enumS {X : Cx} {e : Expr} {ta : TA} {p pos tpos : Pos} {elts : List Expr} {kk : Nat} (hg : Gl X "enumerate") (hm : X.mg "enumerate" = none) (ha : PA X [e] ta) (hs : starEach [e] X.env = [(false, eval e X.env)] := by rfl) :
    PI X (.Tuple elts kk tpos) (.Call (.Name "enumerate" p) [e] [] pos) (iEnumS ta) := by
  refine ⟨fun pins s σ H R I h => ?_⟩
  refine Call_ (ld_blt I hg hm boot_enumerate (PyProof.Rows.callWith_type1 (thn (ha.run pos pins s σ H _ I h) fun us s1 ⟨vs, H1, I1, r1, q1⟩ => ?_) hs rfl))
  obtain ⟨x, ex, q⟩ := q1
  subst ex
  cases r1 with
  | cons r rr =>
    cases rr
    obtain ⟨t, rfl⟩ := r
    refine call_enumerate_str fun h' he hit hsz hk => wpAny_pyIter_enum he ?_
    have I2 : Inv X pins σ H1 { s1 with heap := h' } := I1.kept (t' := s1.toks) hk
    refine ⟨s1.heap.objs.size + 1, [s1.heap.objs.size + 1, s1.heap.objs.size], _, _, H1, rfl, I2, turn_enumS (s1.heap.objs.size + 1) s1.heap.objs.size x t, ⟨⟨.none, he⟩, hit, Nat.succ_ne_self _⟩, fun b hb => ?_, q⟩
    have e' : b = s1.heap.objs.size + 1 ∨ b = s1.heap.objs.size := by simpa using hb
    have hle : s1.heap.objs.size ≤ b := by
      rcases e' with z | z
      · rw [z]; exact Nat.le_add_right _ _
      · rw [z]; exact Nat.le_refl _
    exact I1.fpOk hle (I1.hok.fresh hle)
/-! a tuple -/
def ItT (K : PySem.W.Frag) (a : Addr) : It :=
  ⟨fun i H => ∃ (xs : List V) (x : V), SqT K H a xs ∧ xs[i]? = some x, fun i H v H' => ∃ T x, v = .ref T ∧ H T = none ∧ H' = upd H T (.tup [.int (i : Nat), x]) ∧ ∀ xs, SqT K H a xs → xs[i]? = some x, fun i H => ∃ xs : List V, SqT K H a xs ∧ xs.length ≤ i⟩
theorem turn_enumT {P : Program} {w : World} {K : PySem.W.Frag} {elts : List Expr} {kk : Nat} {tpos : Pos} (a e it : Addr) :
    Turn P w K (.Tuple elts kk tpos) (ItT K a) [e, it] e (fun i h => (∃ old, IsEnum h e it ((i : Nat) : Int) old) ∧ h.IsTupleIter it a i ∧ e ≠ it ∧ a ≠ it ∧ a ≠ e) where
  mem := by simp
  obj := fun i h st b hb => by
    obtain ⟨⟨old, he⟩, ⟨o, ho, hc, hd⟩, _⟩ := st
    have e' : b = e ∨ b = it := by simpa using hb
    rcases e' with z | z
    · rw [z]; exact ⟨_, he, fun v q => nomatch q⟩
    · rw [z]; exact ⟨o, ho, fun v q => by rw [hd] at q; cases q⟩
  keep := fun i h h' st k => let ⟨⟨old, he⟩, hi, hne⟩ := st; ⟨⟨old, k e (by simp) _ he⟩, hi.at fun o q => k it (by simp) o q, hne⟩
  item := by
    intro X hP hw hK hc i pins s σ H E I hf st hg
    subst hP hw hK
    obtain ⟨⟨old, he⟩, hit, hne, hai, hae⟩ := st
    obtain ⟨xs, x, hq, hx⟩ := hg
    obtain ⟨its, rv, p, hz⟩ := I.tuple hq
    obtain ⟨u, hu, ru⟩ := rv.get hx
    have hel : e < s.heap.objs.size := Heap.lt_size he
    have hil : it < s.heap.objs.size := by obtain ⟨_, q, _⟩ := hit; exact Heap.lt_size q
    have hlt : i < its.toArray.size := by
      have := (List.getElem?_eq_some_iff.mp hu).1
      simpa using this
    refine wpAny_pyNext_enum_itemD (Draws.tuple (A := X.A.in1) (I.ok.hd hc) it a hai its.toArray) he ⟨hit, p⟩ hlt hne (by simp [hne, Ne.symm hae]) fun u2 h' tk hu2 ho hit' hT hsz hk => ?_
    have e2 : u2 = u := by
      have : its[i]? = some u2 := by simpa using hu2
      rw [hu] at this
      exact (Option.some.inj this).symm
    subst e2
    refine ⟨_, rfl, wpAny_letOwnedTupleGo_enum (s := { s with heap := h', toks := tk + 1 }) ho fun h'' he' sb => ?_⟩
    have hT2 : h''.get? s.heap.objs.size = some { cls := .type "tuple", data := .seq #[.int i tk, u2] } := (sb.2 _ (Nat.ne_of_gt hel)).trans hT
    have new : ObjOk X.prog X.w (upd H s.heap.objs.size (.tup [.int (i : Nat), x])) h'' s.heap.objs.size (.tup [.int (i : Nat), x]) :=
      ⟨by show 2 ≤ sizeLine; decide, [.int i tk, u2], .cons ⟨_, rfl⟩ (.cons ru .nil), ⟨_, hT2, rfl, _, rfl⟩⟩
    have I1 : Inv X pins σ (upd H s.heap.objs.size (.tup [.int (i : Nat), x])) { s with heap := h'', toks := tk + 1 } :=
      I.turnedNew (ch := [e, it]) (fun b ob hb q => (sb.2 b (fun z => hb (by simp [z]))).trans (hk b ob (fun z => hb (by simp [z])) (fun z => hb (by simp [z])) q)) hf (Nat.le_refl _) new
    refine ⟨.ref s.heap.objs.size, _, I1, rfl, ⟨_, x, rfl, I.hok.fresh (Nat.le_refl _), rfl, fun ys hy => by rw [I.tuple_inj hy hq]; exact hx⟩, ⟨⟨u2, ?_⟩, hit'.1.at fun o q => (sb.2 it (Ne.symm hne)).trans q, hne, hai, hae⟩, fun b hb => ?_⟩
    · have e1 : ((i + 1 : Nat) : Int) = (i : Int) + 1 := by omega
      rw [e1]; exact he'
    · have hb' : b < s.heap.objs.size := by
        have e' : b = e ∨ b = it := by simpa using hb
        rcases e' with z | z
        · rw [z]; exact hel
        · rw [z]; exact hil
      rw [upd_ne (Nat.ne_of_lt hb')]
      exact (hf b hb).1
  done := by
    intro X hP hw hK hc i pins s σ H E I hf st hg
    subst hP hw hK
    obtain ⟨⟨old, he⟩, hit, hne, hai, hae⟩ := st
    obtain ⟨xs, hq, hx⟩ := hg
    obtain ⟨its, rv, p, hz⟩ := I.tuple hq
    obtain ⟨f0, f1, f2, f3, f4, f5⟩ := hf it (by simp)
    have hl := rv.length
    have D : Draws X.prog X.w X.A.in1 it [it, a] 0 (fun _ _ => True) (fun _ h => h.IsTupleIter it a i ∧ h.IsTuple a its.toArray) := {
      live := fun _ h st => let ⟨o, ho, _⟩ := st.1; ⟨o, ho⟩
      frame := fun _ h h' st k => ⟨st.1.at fun o q => k it (by simp) o q, st.2.at fun o q => k a (by simp) o q⟩
      item := fun j s Q E hj => absurd hj (Nat.not_lt_zero _)
      done := fun s Q E st hE => wpAny_nextOf_tuple_end (I.ok.hd hc) st.1 st.2 (by simp; omega) hE }
    exact wpAny_pyNext_enum_endD D he ⟨hit, p⟩ fun h' eb => ⟨rfl, I.turned (t' := s.toks) (fun b o hb q => eb b o hb q) f0 f1 f3 f4 f5⟩
  self := fun A i s Q E st h => let ⟨⟨_, he⟩, _⟩ := st; wpAny_pyIter_enum he h
theorem meets_enumerate_newT (l : Addr) (items : Array Value) (n : Nat) (dct : Option Addr) (sl : Array (Option Value)) :
    Meets (Builtin.«enumerate.__new__» ⟨[.type "enumerate", .ref l], []⟩) (fun _ R s => s.heap.get? l = some { cls := .type "tuple", dict := dct, data := .seq items n, slots := sl } ∧
      R (.ok (.ret (.ref (s.heap.push { cls := .type "tuple_iterator", data := .fields #[.ref l, .int 0 0] }).objs.size)))
        { s with heap := (s.heap.push { cls := .type "tuple_iterator", data := .fields #[.ref l, .int 0 0] }).push { cls := .type "enumerate", data := .fields #[.none, .bool false, .ref s.heap.objs.size, rawInt 0, .none, .none] } }) :=
  .of_wp fun prog w A R s h => by
    obtain ⟨hp, g, d, tk, os⟩ := s; obtain ⟨hl, h⟩ := h
    have hsub := sub_enumerate
    have hL : Heap.IsTuple (Shared.heap ⟨hp, g, d, tk, os⟩) l items := ⟨_, hl, rfl, n, rfl⟩
    wp_walk using AutoSeq1.wpAny_loadPart' hl
    refine wpAny_stack_any fun st => wpAny_pure ?_
    split
    · rename_i c _ _ _ _ _
      cases (c == Value.type "enumerate")
      · wp_walk using AutoSeq1.wpAny_loadPart' hl, wpAny_pyIter_tuple hL
        exact ⟨_, rfl, h⟩
      · wp_walk using AutoSeq1.wpAny_loadPart' hl, wpAny_pyIter_tuple hL
        exact ⟨_, rfl, h⟩
    · wp_walk using AutoSeq1.wpAny_loadPart' hl, wpAny_pyIter_tuple hL
      exact ⟨_, rfl, h⟩
theorem call_enumerate_tuple {prog : Program} {w : World} {A : Around} {E : Value → Shared → Prop} {s : Shared} {l : Addr} {items : Array Value} {Q : Value → Shared → Prop} (hL : s.heap.IsTuple l items)
    (h : ∀ h', IsEnum h' (s.heap.objs.size + 1) s.heap.objs.size 0 .none → h'.IsTupleIter s.heap.objs.size l 0 → h'.objs.size = s.heap.objs.size + 2 →
      (∀ b o, s.heap.get? b = some o → h'.get? b = some o) → Q (.ref (s.heap.objs.size + 1)) { s with heap := h' }) :
    wpAny (model prog w) A (call (.type "enumerate") [.ref l]) Q E s := by
  obtain ⟨⟨c, dct, dt, sl⟩, hl, hc, n, hd⟩ := hL
  replace hc : c = .type "tuple" := hc
  replace hd : dt = .seq items n := hd
  subst hc hd
  refine callType_new F.called_enumerate (by decide) (F.typeCall_enumerate_1 _) (F.newCall_enumerate_1 _) (fun obj => F.args_object_init_2 obj _) F.entry_enumerate_new
    (meets_enumerate_newT l items n dct sl) ⟨hl, ?_⟩
  have hz : (s.heap.push { cls := .type "tuple_iterator", data := .fields #[.ref l, .int 0 0] }).objs.size = s.heap.objs.size + 1 := Heap.size_push ..
  show _ ∧ _
  rw [hz]
  have he : IsEnum ((s.heap.push { cls := .type "tuple_iterator", data := .fields #[.ref l, .int 0 0] }).push
      { cls := .type "enumerate", data := .fields #[.none, .bool false, .ref s.heap.objs.size, rawInt 0, .none, .none] }) (s.heap.objs.size + 1) s.heap.objs.size 0 .none := by
    have := Heap.get?_push_size (s.heap.push { cls := .type "tuple_iterator", data := .fields #[.ref l, .int 0 0] })
      (o := { cls := .type "enumerate", data := .fields #[.none, .bool false, .ref s.heap.objs.size, rawInt 0, .none, .none] }) rfl
    rw [hz] at this; exact this
  refine ⟨⟨_, he, rfl⟩, h _ he ⟨_, Heap.get?_push_of_some _ (Heap.get?_push_size _ rfl), rfl, rfl⟩ (by rw [Heap.size_push, hz]) fun b o x => Heap.get?_push_of_some _ (Heap.get?_push_of_some _ x)⟩
def iEnumT (K : PySem.W.Frag) (ta : TA) : TI := fun σ H R => ta σ H fun vs H1 => ∃ a xs, vs = [.ref a] ∧ SqT K H1 a xs ∧ R (ItT K a) H1
theorem pi_enumT {X : Cx} {e : Expr} {ta : TA} {p pos tpos : Pos} {elts : List Expr} {kk : Nat} (hg : Gl X "enumerate") (hm : X.mg "enumerate" = none) (ha : PA X [e] ta) (hs : starEach [e] X.env = [(false, eval e X.env)] := by rfl) :
    PI X (.Tuple elts kk tpos) (.Call (.Name "enumerate" p) [e] [] pos) (iEnumT X.K ta) := by
  refine ⟨fun pins s σ H R I h => ?_⟩
  refine Call_ (ld_blt I hg hm boot_enumerate (PyProof.Rows.callWith_type1 (thn (ha.run pos pins s σ H _ I h) fun us s1 ⟨vs, H1, I1, r1, q1⟩ => ?_) hs rfl))
  obtain ⟨a, xs, ex, hq, q⟩ := q1
  subst ex
  cases r1 with
  | cons r rr =>
    cases rr
    cases r
    obtain ⟨its, rv, p', hz⟩ := I1.tuple hq
    have hla : a < s1.heap.objs.size := by obtain ⟨o, q, _⟩ := p'; exact Heap.lt_size q
    refine call_enumerate_tuple p' fun h' he hit hsz hk => wpAny_pyIter_enum he ?_
    have I2 : Inv X pins σ H1 { s1 with heap := h' } := I1.kept (t' := s1.toks) hk
    refine ⟨s1.heap.objs.size + 1, [s1.heap.objs.size + 1, s1.heap.objs.size], _, _, H1, rfl, I2, turn_enumT a (s1.heap.objs.size + 1) s1.heap.objs.size, ⟨⟨.none, he⟩, hit, Nat.succ_ne_self _, Nat.ne_of_lt hla, Nat.ne_of_lt (Nat.lt_succ_of_lt hla)⟩, fun b hb => ?_, q⟩
    have e' : b = s1.heap.objs.size + 1 ∨ b = s1.heap.objs.size := by simpa using hb
    have hle : s1.heap.objs.size ≤ b := by
      rcases e' with z | z
      · rw [z]; exact Nat.le_add_right _ _
      · rw [z]; exact Nat.le_refl _
    exact I1.fpOk hle (I1.hok.fresh hle)
variable {Γ Γ' ρ τ α β σ' ι : Type} {X : Cx} {sl : Γ → Sl} {e a b c : Expr} {k : Kd} {pos p : Pos}
theorem piv_enumS {elts : List Expr} {kk : Nat} {p tpos : Pos} {f : Γ → Option Tx} (hg : Gl X "enumerate") (hm : X.mg "enumerate" = none) (ha : PV X sl .b a f) (hs : starEach [a] X.env = [(false, eval a X.env)] := by rfl) :
    IV X sl .a (.Tuple elts kk tpos) (.Call (.Name "enumerate" p) [a] [] pos) (fun s => (f s).bind fun x => some (x.cs.zipIdx.map fun q => T2.mk (q.2 : Int) (⟨[q.1]⟩ : Tx))) :=
  PI.imp (pi_enumS hg hm (pa_cons ha pa_nil hs) hs) fun σ H R ⟨g, S0, S, xs, E, hf, q⟩ => by
    obtain ⟨t, e1, e2⟩ := bind1 hf
    cases e2
    refine ⟨g, S0, S, t, E, e1, fun v H1 s1 r1 => ?_⟩
    refine ⟨_, by rw [rb_t r1], q _ H1 s1 fun S2 H2 m s d => ?_⟩
    refine ⟨fun i hi => by show Array.size _ ≤ i; simpa using hi, fun i x hx => ?_⟩
    rw [List.getElem?_map, List.getElem?_zipIdx] at hx
    cases hc : t.cs[i]? with
    | none => rw [hc] at hx; cases hx
    | some c =>
      rw [hc] at hx
      cases hx
      obtain ⟨hl, _⟩ := List.getElem?_eq_some_iff.mp hc
      refine ⟨by show i < Array.size _; simpa using hl, fun v H3 hy => ?_⟩
      obtain ⟨T, c', rfl, hT, rfl, hc'⟩ := hy
      have e3 : t.cs[i]? = some c' := by simpa using hc'
      rw [hc] at e3
      cases e3
      refine ⟨same_new hT, rp_newT d hT ⟨_, _, rfl, ?_, .one rfl⟩⟩
      simp
      rfl
theorem piv_enumT [Enc τ] [Enc ι] {elts : List Expr} {kk : Nat} {p tpos : Pos} {f : Γ → Option τ} (ds : τ → List ι) (hd : ∀ t, enc t = .tuple ((ds t).map enc)) [NoL τ] (hg : Gl X "enumerate") (hm : X.mg "enumerate" = none) (ha : PV X sl .b a f) (hs : starEach [a] X.env = [(false, eval a X.env)] := by rfl) :
    IV X sl .a (.Tuple elts kk tpos) (.Call (.Name "enumerate" p) [a] [] pos) (fun s => (f s).bind fun x => some ((ds x).zipIdx.map fun q => T2.mk (q.2 : Int) q.1)) :=
  PI.imp (pi_enumT hg hm (pa_cons ha pa_nil hs) hs) fun σ H R ⟨g, S0, S, xs, E, hf, q⟩ => by
    obtain ⟨l, e1, e2⟩ := bind1 hf
    cases e2
    refine ⟨g, S0, S, l, E, e1, fun v H1 s1 r1 => ?_⟩
    have r1' : Rp X.K H1 (un S S0) (enc l) v := Rb.rp r1
    rw [hd] at r1'
    obtain ⟨a, vs, rfl, h1, h2⟩ := r1'
    refine ⟨a, vs, rfl, h1.sq, q _ H1 s1 fun S2 H2 m s d => ?_⟩
    have h3 := (h1.mv m.un).sq
    have r2 : RpA X.K H2 (un S2 S0) ((ds l).map enc) vs := RpA.mv m.un _ _ h2
    refine ⟨fun i hi => ⟨vs, h3, by rw [map_len r2]; simpa using hi⟩, fun i x hx => ?_⟩
    obtain ⟨y, hy, rfl⟩ : ∃ y, (ds l)[i]? = some y ∧ x = T2.mk (i : Int) y := by
      rw [List.getElem?_map, List.getElem?_zipIdx] at hx
      cases h : (ds l)[i]? with
      | none => rw [h] at hx; cases hx
      | some y => rw [h] at hx; cases hx; exact ⟨y, rfl, by simp⟩
    obtain ⟨v, g1, g2⟩ := map_get r2 hy
    refine ⟨⟨vs, v, h3, g1⟩, fun w H3 hy => ?_⟩
    obtain ⟨T, z, rfl, hT, rfl, hz⟩ := hy
    have e3 := hz vs h3
    rw [g1] at e3
    cases e3
    exact ⟨same_new hT, rp_newT d hT ⟨_, _, rfl, rfl, .one g2⟩⟩
theorem piv_tup [Enc τ] [Enc ι] {tg : Expr} {f : Γ → Option τ} (ds : τ → List ι) (hd : ∀ t, enc t = .tuple ((ds t).map enc)) [NoL τ] (h : PV X sl .b e f) : IV X sl .a tg e (fun s => (f s).bind fun x => some (ds x)) := PI.imp (pi_tup h) fun σ H R ⟨g, S0, S, xs, E, hf, q⟩ => by
  obtain ⟨l, e1, e2⟩ := bind1 hf
  cases e2
  refine ⟨g, S0, S, l, E, e1, fun v H1 s1 r1 => ?_⟩
  have r1' : Rp X.K H1 (un S S0) (enc l) v := Rb.rp r1
  rw [hd] at r1'
  obtain ⟨a, vs, rfl, h1, h2⟩ := r1'
  refine ⟨a, rfl, ⟨vs, h1.sq⟩, q _ H1 s1 fun S2 H2 m s d => ?_⟩
  have h3 := (h1.mv m.un).sq
  have r2 : RpA X.K H2 (un S2 S0) ((ds l).map enc) vs := RpA.mv m.un _ _ h2
  refine ⟨fun i hi => ⟨vs, h3, by rw [map_len r2]; exact hi⟩, fun i x hx => ?_⟩
  obtain ⟨v, g1, g2⟩ := map_get r2 hx
  refine ⟨⟨vs, v, h3, g1⟩, fun w H3 hy => ?_⟩
  obtain ⟨rfl, hz⟩ := hy
  have e3 := hz vs h3
  rw [g1] at e3
  cases e3
  exact ⟨Same.refl _, g2⟩
end PL


set_option Elab.async false
set_option linter.all false
set_option maxRecDepth 100000
set_option maxHeartbeats 4000000
namespace LW
open PySem PySem.Spec L2 PL
open Enc (enc)
def topS (i : Nat) : Stmt := PySem.Challenge.pw_reckonedbyhand_k97_whole_periods_of_part.main.body.getD i (.Pass ⟨0, 0, 0, 0⟩)
def c_DIGITS_l : List Nat := [48, 49, 50, 51, 52, 53, 54, 55, 56, 57, 97, 98, 99, 100, 101, 102, 103, 104, 105, 106, 107, 108, 109, 110, 111, 112, 113, 114, 115, 116, 117, 118, 119, 120, 121, 122]
/-- what the top has left -/
structure Top (K : PySem.W.Frag) (mg : Str → Option Value) where
  a__law_draws : Addr
  d__law_draws : FuncData
  F__law_draws : Fun K "_law_draws" "_law_draws" (topS 51) a__law_draws d__law_draws
  b__law_draws : Binds K d__law_draws ["script"] []
  m__law_draws : mg "_law_draws" = some (.ref a__law_draws)
  a_is_fraction : Addr
  d_is_fraction : FuncData
  F_is_fraction : Fun K "is_fraction" "is_fraction" (topS 31) a_is_fraction d_is_fraction
  b_is_fraction : Binds K d_is_fraction ["told"] []
  m_is_fraction : mg "is_fraction" = some (.ref a_is_fraction)
  a_check_part : Addr
  d_check_part : FuncData
  F_check_part : Fun K "check_part" "check_part" (topS 37) a_check_part d_check_part
  b_check_part : Binds K d_check_part ["part"] []
  m_check_part : mg "check_part" = some (.ref a_check_part)
  a_check_base : Addr
  d_check_base : FuncData
  F_check_base : Fun K "check_base" "check_base" (topS 13) a_check_base d_check_base
  b_check_base : Binds K d_check_base ["base"] []
  m_check_base : mg "check_base" = some (.ref a_check_base)
  a_check_both : Addr
  d_check_both : FuncData
  F_check_both : Fun K "check_both" "check_both" (topS 38) a_check_both d_check_both
  b_check_both : Binds K d_check_both ["part", "base"] []
  m_check_both : mg "check_both" = some (.ref a_check_both)
  a_split : Addr
  d_split : FuncData
  F_split : Fun K "split" "split" (topS 39) a_split d_split
  b_split : Binds K d_split ["number", "base"] []
  m_split : mg "split" = some (.ref a_split)
  a_lengths_of : Addr
  d_lengths_of : FuncData
  F_lengths_of : Fun K "lengths_of" "lengths_of" (topS 41) a_lengths_of d_lengths_of
  b_lengths_of : Binds K d_lengths_of ["part", "base"] []
  m_lengths_of : mg "lengths_of" = some (.ref a_lengths_of)
  a_lengths : Addr
  d_lengths : FuncData
  F_lengths : Fun K "lengths" "lengths" (topS 42) a_lengths d_lengths
  b_lengths : Binds K d_lengths ["part", "base"] []
  m_lengths : mg "lengths" = some (.ref a_lengths)
  a_ends : Addr
  d_ends : FuncData
  F_ends : Fun K "ends" "ends" (topS 40) a_ends d_ends
  b_ends : Binds K d_ends ["part", "base"] []
  m_ends : mg "ends" = some (.ref a_ends)
  a_digits : Addr
  d_digits : FuncData
  F_digits : Fun K "digits" "digits" (topS 43) a_digits d_digits
  b_digits : Binds K d_digits ["part", "base"] []
  m_digits : mg "digits" = some (.ref a_digits)
  a__law_mix : Addr
  d__law_mix : FuncData
  F__law_mix : Fun K "_law_mix" "_law_mix" (topS 52) a__law_mix d__law_mix
  b__law_mix : Binds K d__law_mix ["draws", "k", "many"] []
  m__law_mix : mg "_law_mix" = some (.ref a__law_mix)
  a_check_numbers : Addr
  d_check_numbers : FuncData
  F_check_numbers : Fun K "check_numbers" "check_numbers" (topS 22) a_check_numbers d_check_numbers
  b_check_numbers : Binds K d_check_numbers ["base", "told"] []
  m_check_numbers : mg "check_numbers" = some (.ref a_check_numbers)
  a_power_of : Addr
  d_power_of : FuncData
  F_power_of : Fun K "power_of" "power_of" (topS 23) a_power_of d_power_of
  b_power_of : Binds K d_power_of ["base", "many"] []
  m_power_of : mg "power_of" = some (.ref a_power_of)
  a_comes_again : Addr
  d_comes_again : FuncData
  F_comes_again : Fun K "comes_again" "comes_again" (topS 26) a_comes_again d_comes_again
  b_comes_again : Binds K d_comes_again ["number", "many", "base"] []
  m_comes_again : mg "comes_again" = some (.ref a_comes_again)
  a_check_some : Addr
  d_check_some : FuncData
  F_check_some : Fun K "check_some" "check_some" (topS 46) a_check_some d_check_some
  b_check_some : Binds K d_check_some ["part"] []
  m_check_some : mg "check_some" = some (.ref a_check_some)
  a_least_unit : Addr
  d_least_unit : FuncData
  F_least_unit : Fun K "least_unit" "least_unit" (topS 47) a_least_unit d_least_unit
  b_least_unit : Binds K d_least_unit ["part"] []
  m_least_unit : mg "least_unit" = some (.ref a_least_unit)
  a_fraction : Addr
  d_fraction : FuncData
  F_fraction : Fun K "fraction" "fraction" (topS 32) a_fraction d_fraction
  b_fraction : Binds K d_fraction ["number", "by"] []
  m_fraction : mg "fraction" = some (.ref a_fraction)
  a_minus : Addr
  d_minus : FuncData
  F_minus : Fun K "minus" "minus" (topS 34) a_minus d_minus
  b_minus : Binds K d_minus ["one", "two"] []
  m_minus : mg "minus" = some (.ref a_minus)
  a_greedy : Addr
  d_greedy : FuncData
  F_greedy : Fun K "greedy" "greedy" (topS 48) a_greedy d_greedy
  b_greedy : Binds K d_greedy ["part"] []
  m_greedy : mg "greedy" = some (.ref a_greedy)
  a_plus : Addr
  d_plus : FuncData
  F_plus : Fun K "plus" "plus" (topS 33) a_plus d_plus
  b_plus : Binds K d_plus ["one", "two"] []
  m_plus : mg "plus" = some (.ref a_plus)
  a_is_sum : Addr
  d_is_sum : FuncData
  F_is_sum : Fun K "is_sum" "is_sum" (topS 49) a_is_sum d_is_sum
  b_is_sum : Binds K d_is_sum ["part", "told"] []
  m_is_sum : mg "is_sum" = some (.ref a_is_sum)
  a_zeros_of : Addr
  d_zeros_of : FuncData
  F_zeros_of : Fun K "zeros_of" "zeros_of" (topS 28) a_zeros_of d_zeros_of
  b_zeros_of : Binds K d_zeros_of ["number", "base"] []
  m_zeros_of : mg "zeros_of" = some (.ref a_zeros_of)
  a_zeros : Addr
  d_zeros : FuncData
  F_zeros : Fun K "zeros" "zeros" (topS 29) a_zeros d_zeros
  b_zeros : Binds K d_zeros ["number", "base"] []
  m_zeros : mg "zeros" = some (.ref a_zeros)
  a_digits_of : Addr
  d_digits_of : FuncData
  F_digits_of : Fun K "digits_of" "digits_of" (topS 15) a_digits_of d_digits_of
  b_digits_of : Binds K d_digits_of ["number", "base"] []
  m_digits_of : mg "digits_of" = some (.ref a_digits_of)
  a_write_of : Addr
  d_write_of : FuncData
  F_write_of : Fun K "write_of" "write_of" (topS 16) a_write_of d_write_of
  b_write_of : Binds K d_write_of ["number", "base"] []
  m_write_of : mg "write_of" = some (.ref a_write_of)
  a_power_rest : Addr
  d_power_rest : FuncData
  F_power_rest : Fun K "power_rest" "power_rest" (topS 24) a_power_rest d_power_rest
  b_power_rest : Binds K d_power_rest ["number", "exponent", "by"] []
  m_power_rest : mg "power_rest" = some (.ref a_power_rest)
  a_last_digits : Addr
  d_last_digits : FuncData
  F_last_digits : Fun K "last_digits" "last_digits" (topS 25) a_last_digits d_last_digits
  b_last_digits : Binds K d_last_digits ["number", "exponent", "many", "base"] []
  m_last_digits : mg "last_digits" = some (.ref a_last_digits)
  a_read_of : Addr
  d_read_of : FuncData
  F_read_of : Fun K "read_of" "read_of" (topS 14) a_read_of d_read_of
  b_read_of : Binds K d_read_of ["text", "base"] []
  m_read_of : mg "read_of" = some (.ref a_read_of)
  a_part_of : Addr
  d_part_of : FuncData
  F_part_of : Fun K "part_of" "part_of" (topS 44) a_part_of d_part_of
  b_part_of : Binds K d_part_of ["ahead", "again", "base"] []
  m_part_of : mg "part_of" = some (.ref a_part_of)
  a_law : Addr
  d_law : FuncData
  F_law : Fun K "law" "law" (topS 53) a_law d_law
  b_law : Binds K d_law ["script"] []
  m_law : mg "law" = some (.ref a_law)
  z_abs : mg "abs" = none
  z_all : mg "all" = none
  z_enumerate : mg "enumerate" = none
  z_int : mg "int" = none
  z_len : mg "len" = none
  z_max : mg "max" = none
  z_min : mg "min" = none
  z_range : mg "range" = none
  z_tuple : mg "tuple" = none
  z_zip : mg "zip" = none
  c_DIGITS : ∃ t : Tok, mg "DIGITS" = some (.str "0123456789abcdefghijklmnopqrstuvwxyz" t)
  c_GREATEST_BASE : ∃ t : Tok, mg "GREATEST_BASE" = some (.int 12 t)
  c_LEAST_BASE : ∃ t : Tok, mg "LEAST_BASE" = some (.int 2 t)
  c_MOST_AGAIN : ∃ t : Tok, mg "MOST_AGAIN" = some (.int 3 t)
  c_MOST_BASE : ∃ t : Tok, mg "MOST_BASE" = some (.int 36 t)
  c_MOST_DIGITS : ∃ t : Tok, mg "MOST_DIGITS" = some (.int 60 t)
  c_MOST_LISTED : ∃ t : Tok, mg "MOST_LISTED" = some (.int 20 t)
  c_MOST_NUMBER : ∃ t : Tok, mg "MOST_NUMBER" = some (.int 1000000 t)
  c_MOST_SECOND : ∃ t : Tok, mg "MOST_SECOND" = some (.int 1000 t)
  b_gcd : mg "gcd" = some (.builtin "math.gcd")
variable {P : Program} {w : World} {K : PySem.W.Frag} {mg : Str → Option Value} {base : Heap}
/-! ## _law_draws -/
structure S__law_draws where
  mk ::
  v_script : (List Int)
  v_draws : (List Int)
  v_k : Int
  v_rest : Int
  v_turn : Int
  v_mixed : Int
@[reducible] def sl__law_draws_0 (s : S__law_draws) : Sl := (fun s : S__law_draws => ([some (Mo.b, enc s.v_script), some (Mo.o, enc s.v_draws), some (Mo.a, enc s.v_k), some (Mo.a, enc s.v_rest), some (Mo.a, enc s.v_turn), none] : Sl)) s
@[reducible] def sl__law_draws_1 (s : S__law_draws) : Sl := (fun s : S__law_draws => ([some (Mo.b, enc s.v_script), some (Mo.o, enc s.v_draws), some (Mo.a, enc s.v_k), some (Mo.a, enc s.v_rest), none, none] : Sl)) s
@[reducible] def sl__law_draws_2 (s : S__law_draws) : Sl := (fun s : S__law_draws => ([some (Mo.b, enc s.v_script), some (Mo.o, enc s.v_draws), some (Mo.a, enc s.v_k), some (Mo.a, enc s.v_rest), none, some (Mo.a, enc s.v_mixed)] : Sl)) s
@[reducible] def sl__law_draws_3 (s : S__law_draws) : Sl := (fun s : S__law_draws => ([some (Mo.b, enc s.v_script), some (Mo.o, enc s.v_draws), some (Mo.a, enc s.v_k), none, none, none] : Sl)) s
@[reducible] def sl__law_draws_4 (s : S__law_draws) : Sl := (fun s : S__law_draws => ([some (Mo.b, enc s.v_script), some (Mo.o, enc s.v_draws), none, none, none, none] : Sl)) s
@[reducible] def sl__law_draws_5 (s : S__law_draws) : Sl := (fun s : S__law_draws => ([some (Mo.b, enc s.v_script), none, none, none, none, none] : Sl)) s
def lp__law_draws_0 (s : S__law_draws) : Option (Out S__law_draws (List Int)) :=
  seqO (((some s.v_rest).bind fun x297 => (some (0 : Int)).bind fun x298 => some (decide (x297 > x298))).bind fun x323 => if x323 = true then
  (seqO ((((some s.v_rest).bind fun x309 => some x309).bind fun x310 => (some (65536 : Int)).bind fun x311 => iMod x310 x311).bind fun x312 => (push s.v_draws x312).bind fun x313 => some (Out.nx (ρ := (List Int)) { s with v_draws := x313 })) fun s =>
  seqO (((some s.v_rest).bind fun x320 => (some (65536 : Int)).bind fun x321 => iDiv x320 x321).bind fun x322 => some (Out.nx (ρ := (List Int)) { s with v_rest := x322 })) fun s =>
  some (Out.nx (ρ := (List Int)) s))
  else some (Out.nx (ρ := (List Int)) s)) fun s =>
  some (Out.nx (ρ := (List Int)) { s with v_turn := 0 })
def lp__law_draws_1 (s : S__law_draws) : Option (Out S__law_draws (List Int)) :=
  seqO ((((some s.v_script).bind fun x198 => (some s.v_k).bind fun x199 => atI x198 x199).bind fun x200 => some (x200.natAbs : Int)).bind fun x201 => some (Out.nx (ρ := (List Int)) { s with v_rest := x201 })) fun s =>
  seqO (((some s.v_rest).bind fun x259 => ((some (10 : Int)).bind fun x257 => (some (18 : Int)).bind fun x258 => iPow x257 x258).bind fun x260 => some (decide (x259 ≥ x260))).bind fun x433 => if x433 = true then
  (seqO (((some (60 : Int)).bind fun x284 => rng1 x284).bind fun x324 => forO (fun (s : S__law_draws) (t : Int) => { s with v_turn := t }) lp__law_draws_0 x324 s) fun s =>
  some (Out.nx (ρ := (List Int)) s))
  else seqO ((((((some s.v_rest).bind fun x349 => (some (48271 : Int)).bind fun x350 => iMul x349 x350).bind fun x355 => (((some s.v_k).bind fun x351 => (some (1 : Int)).bind fun x352 => some (x351 + x352)).bind fun x353 => (some (69621 : Int)).bind fun x354 => iMul x353 x354).bind fun x356 => some (x355 + x356)).bind fun x357 => some x357).bind fun x358 => (some (2147483647 : Int)).bind fun x359 => iMod x358 x359).bind fun x360 => some (Out.nx (ρ := (List Int)) { s with v_mixed := x360 })) fun s =>
  seqO (((((((some s.v_mixed).bind fun x385 => (some (16807 : Int)).bind fun x386 => iMul x385 x386).bind fun x389 => ((some (11 : Int)).bind fun x387 => (some s.v_k).bind fun x388 => iMul x387 x388).bind fun x390 => some (x389 + x390)).bind fun x391 => (some (5 : Int)).bind fun x392 => some (x391 + x392)).bind fun x393 => some x393).bind fun x394 => (some (2147483629 : Int)).bind fun x395 => iMod x394 x395).bind fun x396 => some (Out.nx (ρ := (List Int)) { s with v_mixed := x396 })) fun s =>
  seqO ((((some s.v_mixed).bind fun x407 => some x407).bind fun x408 => (some (65536 : Int)).bind fun x409 => iMod x408 x409).bind fun x410 => (push s.v_draws x410).bind fun x411 => some (Out.nx (ρ := (List Int)) { s with v_draws := x411 })) fun s =>
  seqO (((((some s.v_mixed).bind fun x426 => (some (65536 : Int)).bind fun x427 => iDiv x426 x427).bind fun x428 => some x428).bind fun x429 => (some (32768 : Int)).bind fun x430 => iMod x429 x430).bind fun x431 => (push s.v_draws x431).bind fun x432 => some (Out.nx (ρ := (List Int)) { s with v_draws := x432 })) fun s =>
  some (Out.nx (ρ := (List Int)) { s with v_mixed := 0 })) fun s =>
  some (Out.nx (ρ := (List Int)) { s with v_k := 0, v_rest := 0 })
def fb__law_draws (s : S__law_draws) : Option (Out S__law_draws (List Int)) :=
  seqO ((some ([] : List Int)).bind fun x63 => some (Out.nx (ρ := (List Int)) { s with v_draws := x63 })) fun s =>
  seqO ((((some (63 : Int)).bind fun x187 => ((some s.v_script).bind fun x186 => some (x186.length : Int)).bind fun x188 => some (min x187 x188)).bind fun x189 => rng1 x189).bind fun x434 => forO (fun (s : S__law_draws) (t : Int) => { s with v_k := t }) lp__law_draws_1 x434 s) fun s =>
  seqO (some (Out.rt s.v_draws)) fun s =>
  some (Out.nx (ρ := (List Int)) s)
def F__law_draws (v_script : (List Int)) : Option (List Int) := outF none (fb__law_draws (⟨v_script, [], 0, 0, 0, 0⟩ : S__law_draws))
@[reducible] def sa__law_draws (a : (List Int) × Unit) : Sl := [some (Mo.b, enc a.1), none, none, none, none, none]
@[reducible] def in__law_draws (a : (List Int) × Unit) : S__law_draws := ⟨a.1, [], 0, 0, 0, 0⟩
abbrev N__law_draws : List Str := ["script", "draws", "k", "rest", "turn", "mixed"]
abbrev s__law_draws : Stmt := topS 51
theorem sc__law_draws : FnScope N__law_draws ["script"] (defScope s__law_draws) := ⟨rfl, rfl, rfl, by decide +kernel, rfl, by decide +kernel, by decide +kernel⟩
theorem ok__law_draws (T : Top K mg) : FnOk P w K mg base CX0 1 T.a__law_draws T.d__law_draws ["script"] (spF K N__law_draws 1 sa__law_draws .f (fun a => F__law_draws a.1)) := by
  have nd := sc__law_draws.nd
  refine fn_v (slE := sl__law_draws_5) (fb := fun a => fb__law_draws (in__law_draws a)) none T.F__law_draws sc__law_draws rfl (fun _ h => nomatch h) (.inr ⟨rfl, rfl⟩) (fun _ => rfl) fun cdv A outer s H E hr => ?_
  exact (bv_wk (sl'' := sl__law_draws_5) (h := in__law_draws) (fun _ => Wk.refl _)
  (bv_cons (sl'' := sl__law_draws_4) (sv_own (i := 1) (fun (s : S__law_draws) t => { s with v_draws := t }) (fun _ _ => rfl) nd (pv_lst (pal_nil (τ := Int))))
  (bv_cons (sl'' := sl__law_draws_4) (sv_for (sl := sl__law_draws_4) PassesOwn.never (piv_range1 (by rfl) T.z_range (PV.ab (pv_min2 (by rfl) T.z_min (PV.ab pv_int) (PV.ab (pv_len (by rfl) T.z_len (pv_varb (i := 0) (fun s : S__law_draws => s.v_script) (fun _ => rfl))))))) (gv_name (i := 2) (slb := sl__law_draws_3) (set := (fun (s : S__law_draws) (t : Int) => { s with v_k := t })) (fun _ _ => rfl) nd)
  (bv_cons (sl'' := sl__law_draws_1) (sv_set (i := 3) (fun (s : S__law_draws) t => { s with v_rest := t }) (fun _ _ => rfl) nd (pv_abs (by rfl) T.z_abs (PV.ab (pv_ix (pv_varb (i := 0) (fun s : S__law_draws => s.v_script) (fun _ => rfl)) (PV.ab (pv_var (i := 2) (fun s : S__law_draws => s.v_k) (fun _ => rfl)))))))
  (bv_cons (sl'' := sl__law_draws_1) (sv_if (pb_cmp c_ge (PV.ab (pv_var (i := 3) (fun s : S__law_draws => s.v_rest) (fun _ => rfl))) (PV.ab (pv_pow (PV.ab pv_int) (PV.ab pv_int))))
  (bv_cons (sl'' := sl__law_draws_1) (sv_for (sl := sl__law_draws_1) PassesOwn.never (piv_range1 (by rfl) T.z_range (PV.ab pv_int)) (gv_name (i := 4) (slb := sl__law_draws_0) (set := (fun (s : S__law_draws) (t : Int) => { s with v_turn := t })) (fun _ _ => rfl) nd)
  (bv_cons (sl'' := sl__law_draws_0) (sv_if (pb_cmp c_gt (PV.ab (pv_var (i := 3) (fun s : S__law_draws => s.v_rest) (fun _ => rfl))) (PV.ab pv_int))
  (bv_cons (sl'' := sl__law_draws_0) (sv_app (i := 1) (fun s : S__law_draws => s.v_draws) (fun s t => { s with v_draws := t }) (fun _ => rfl) (fun _ _ => rfl) (pv_mod (PV.ab (pv_int1 (by rfl) T.z_int (PV.ab (pv_var (i := 3) (fun s : S__law_draws => s.v_rest) (fun _ => rfl))))) (PV.ab pv_int)))
  (bv_cons (sl'' := sl__law_draws_0) (sv_set (i := 3) (fun (s : S__law_draws) t => { s with v_rest := t }) (fun _ _ => rfl) nd (pv_div (PV.ab (pv_var (i := 3) (fun s : S__law_draws => s.v_rest) (fun _ => rfl))) (PV.ab pv_int)))
  (bv_nil (h := fun (s : S__law_draws) => (s : S__law_draws)) (fun _ => (.s (.s (.s (.s (.s (.s .nil))))))))))
  (bv_nil (h := fun (s : S__law_draws) => (s : S__law_draws)) (fun _ => (.s (.s (.s (.s (.s (.s .nil)))))))))
  (bv_nil (h := fun (s : S__law_draws) => ({ s with v_turn := 0 } : S__law_draws)) (fun _ => (.s (.s (.s (.s (.d (.s .nil))))))))))
  (bv_nil (h := fun (s : S__law_draws) => (s : S__law_draws)) (fun _ => (.s (.s (.s (.s (.s (.s .nil)))))))))
  (bv_cons (sl'' := sl__law_draws_2) (sv_set (i := 5) (fun (s : S__law_draws) t => { s with v_mixed := t }) (fun _ _ => rfl) nd (pv_mod (PV.ab (pv_int1 (by rfl) T.z_int (PV.ab (pv_add (PV.ab (pv_mul (PV.ab (pv_var (i := 3) (fun s : S__law_draws => s.v_rest) (fun _ => rfl))) (PV.ab pv_int))) (PV.ab (pv_mul (PV.ab (pv_add (PV.ab (pv_var (i := 2) (fun s : S__law_draws => s.v_k) (fun _ => rfl))) (PV.ab pv_int))) (PV.ab pv_int))))))) (PV.ab pv_int)))
  (bv_cons (sl'' := sl__law_draws_2) (sv_set (i := 5) (fun (s : S__law_draws) t => { s with v_mixed := t }) (fun _ _ => rfl) nd (pv_mod (PV.ab (pv_int1 (by rfl) T.z_int (PV.ab (pv_add (PV.ab (pv_add (PV.ab (pv_mul (PV.ab (pv_var (i := 5) (fun s : S__law_draws => s.v_mixed) (fun _ => rfl))) (PV.ab pv_int))) (PV.ab (pv_mul (PV.ab pv_int) (PV.ab (pv_var (i := 2) (fun s : S__law_draws => s.v_k) (fun _ => rfl))))))) (PV.ab pv_int))))) (PV.ab pv_int)))
  (bv_cons (sl'' := sl__law_draws_2) (sv_app (i := 1) (fun s : S__law_draws => s.v_draws) (fun s t => { s with v_draws := t }) (fun _ => rfl) (fun _ _ => rfl) (pv_mod (PV.ab (pv_int1 (by rfl) T.z_int (PV.ab (pv_var (i := 5) (fun s : S__law_draws => s.v_mixed) (fun _ => rfl))))) (PV.ab pv_int)))
  (bv_cons (sl'' := sl__law_draws_2) (sv_app (i := 1) (fun s : S__law_draws => s.v_draws) (fun s t => { s with v_draws := t }) (fun _ => rfl) (fun _ _ => rfl) (pv_mod (PV.ab (pv_int1 (by rfl) T.z_int (PV.ab (pv_div (PV.ab (pv_var (i := 5) (fun s : S__law_draws => s.v_mixed) (fun _ => rfl))) (PV.ab pv_int))))) (PV.ab pv_int)))
  (bv_nil (h := fun (s : S__law_draws) => ({ s with v_mixed := 0 } : S__law_draws)) (fun _ => (.s (.s (.s (.s (.s (.d .nil)))))))))))))
  (bv_nil (h := fun (s : S__law_draws) => ({ s with v_k := 0, v_rest := 0 } : S__law_draws)) (fun _ => (.s (.s (.d (.d (.s (.s .nil)))))))))))
  (bv_cons (sl'' := sl__law_draws_5) (sv_reto (i := 1) (fun s : S__law_draws => s.v_draws) (fun _ => rfl))
  (bv_nil (sl := sl__law_draws_5) (h := fun s => s) (fun _ => Wk.refl _))))))
/-! ## is_fraction -/
structure S_is_fraction where
  mk ::
  v_told : (T2 Int Int)
@[reducible] def sl_is_fraction_0 (s : S_is_fraction) : Sl := (fun s : S_is_fraction => ([some (Mo.a, enc s.v_told)] : Sl)) s
def fb_is_fraction (s : S_is_fraction) : Option (Out S_is_fraction Bool) :=
  seqO (((((some s.v_told).bind fun x34 => some x34.b).bind fun x35 => (some (0 : Int)).bind fun x36 => some (decide (x35 > x36))).bind fun x43 => if x43 = true then (((some s.v_told).bind fun x37 => some x37.a).bind fun x39 => ((some s.v_told).bind fun x38 => some x38.b).bind fun x40 => some ((Nat.gcd x39.natAbs x40.natAbs : Nat) : Int)).bind fun x41 => (some (1 : Int)).bind fun x42 => some (decide (x41 = x42)) else some false).bind fun x44 => some (Out.rt x44)) fun s =>
  some (Out.nx (ρ := Bool) s)
def F_is_fraction (v_told : (T2 Int Int)) : Option Bool := outF none (fb_is_fraction (⟨v_told⟩ : S_is_fraction))
@[reducible] def sa_is_fraction (a : (T2 Int Int) × Unit) : Sl := [some (Mo.a, enc a.1)]
@[reducible] def in_is_fraction (a : (T2 Int Int) × Unit) : S_is_fraction := ⟨a.1⟩
abbrev N_is_fraction : List Str := ["told"]
abbrev s_is_fraction : Stmt := topS 31
theorem sc_is_fraction : FnScope N_is_fraction ["told"] (defScope s_is_fraction) := ⟨rfl, rfl, rfl, by decide +kernel, rfl, by decide +kernel, by decide +kernel⟩
theorem ok_is_fraction (T : Top K mg) : FnOk P w K mg base CX0 1 T.a_is_fraction T.d_is_fraction ["told"] (spF K N_is_fraction 1 sa_is_fraction .a (fun a => F_is_fraction a.1)) := by
  have nd := sc_is_fraction.nd
  refine fn_v (slE := sl_is_fraction_0) (fb := fun a => fb_is_fraction (in_is_fraction a)) none T.F_is_fraction sc_is_fraction rfl (fun _ h => nomatch h) (.inl rfl) (fun _ => rfl) fun cdv A outer s H E hr => ?_
  exact (bv_wk (sl'' := sl_is_fraction_0) (h := in_is_fraction) (fun _ => Wk.refl _)
  (bv_cons (sl'' := sl_is_fraction_0) (sv_ret (pv_and (pv_cmp c_gt (PV.ab (pv_ixT (fun t : (T2 Int Int) => [enc t.a, enc t.b]) (fun t => t.b) (fun _ => rfl) (fun _ => rfl) (PV.ab (pv_var (i := 0) (fun s : S_is_fraction => s.v_told) (fun _ => rfl))))) (PV.ab pv_int)) (pv_one (pv_cmp c_eqS (PV.ab (pv_gcd' (by rfl) T.b_gcd (PV.ab (pv_ixT (fun t : (T2 Int Int) => [enc t.a, enc t.b]) (fun t => t.a) (fun _ => rfl) (fun _ => rfl) (PV.ab (pv_var (i := 0) (fun s : S_is_fraction => s.v_told) (fun _ => rfl))))) (PV.ab (pv_ixT (fun t : (T2 Int Int) => [enc t.a, enc t.b]) (fun t => t.b) (fun _ => rfl) (fun _ => rfl) (PV.ab (pv_var (i := 0) (fun s : S_is_fraction => s.v_told) (fun _ => rfl))))))) (PV.ab pv_int)))))
  (bv_nil (sl := sl_is_fraction_0) (h := fun s => s) (fun _ => Wk.refl _))))
/-! ## check_part -/
structure S_check_part where
  mk ::
  v_part : (T2 Int Int)
@[reducible] def sl_check_part_0 (s : S_check_part) : Sl := (fun s : S_check_part => ([some (Mo.a, enc s.v_part)] : Sl)) s
def fb_check_part (s : S_check_part) : Option (Out S_check_part Unit) :=
  seqO (((((some s.v_part).bind fun x24 => (some ()).bind fun x25 => some (x24, x25)).bind fun x26 => F_is_fraction x26.1).bind fun x27 => some (!x27)).bind fun x28 => if x28 = true then
  (seqO (none) fun s =>
  some (Out.nx (ρ := Unit) s))
  else some (Out.nx (ρ := Unit) s)) fun s =>
  seqO (((((some (0 : Int)).bind fun x53 => ((some s.v_part).bind fun x51 => some x51.a).bind fun x54 => (some (decide (x53 ≤ x54))).bind fun x56 => if x56 = true then ((some s.v_part).bind fun x52 => some x52.b).bind fun x55 => some (decide (x54 < x55)) else some false).bind fun x57 => some (!x57)).bind fun x61 => if x61 = true then some true else ((some s.v_part).bind fun x58 => some x58.b).bind fun x59 => (some (1000 : Int)).bind fun x60 => some (decide (x59 > x60))).bind fun x62 => if x62 = true then
  (seqO (none) fun s =>
  some (Out.nx (ρ := Unit) s))
  else some (Out.nx (ρ := Unit) s)) fun s =>
  some (Out.nx (ρ := Unit) s)
def F_check_part (v_part : (T2 Int Int)) : Option Unit := outF (some ()) (fb_check_part (⟨v_part⟩ : S_check_part))
@[reducible] def sa_check_part (a : (T2 Int Int) × Unit) : Sl := [some (Mo.a, enc a.1)]
@[reducible] def in_check_part (a : (T2 Int Int) × Unit) : S_check_part := ⟨a.1⟩
abbrev N_check_part : List Str := ["part"]
abbrev s_check_part : Stmt := topS 37
theorem sc_check_part : FnScope N_check_part ["part"] (defScope s_check_part) := ⟨rfl, rfl, rfl, by decide +kernel, rfl, by decide +kernel, by decide +kernel⟩
theorem ok_check_part (T : Top K mg) : FnOk P w K mg base CX0 2 T.a_check_part T.d_check_part ["part"] (spF K N_check_part 1 sa_check_part .a (fun a => F_check_part a.1)) := by
  have nd := sc_check_part.nd
  refine fn_v (slE := sl_check_part_0) (fb := fun a => fb_check_part (in_check_part a)) (some ()) T.F_check_part sc_check_part rfl (fun _ h => by cases h; rfl) (.inl rfl) (fun _ => rfl) fun cdv A outer s H E hr => ?_
  exact (bv_wk (sl'' := sl_check_part_0) (h := in_check_part) (fun _ => Wk.refl _)
  (bv_cons (sl'' := sl_check_part_0) (sv_if (pb_not (pv_val (pv_calla (ok_is_fraction T) (hr.mono (by decide)) (by rfl) T.m_is_fraction T.F_is_fraction.kp T.b_is_fraction (av_a (pv_var (i := 0) (fun s : S_check_part => s.v_part) (fun _ => rfl)) av_nil) (fun _ => ⟨0, rfl, rfl⟩))))
  (bv_cons (sl'' := sl_check_part_0) sv_never
  (bv_nil (sl := sl_check_part_0) (h := fun s => s) (fun _ => Wk.refl _)))
  (bv_nil (h := fun (s : S_check_part) => (s : S_check_part)) (fun _ => (.s .nil))))
  (bv_cons (sl'' := sl_check_part_0) (sv_if (PBw.pb (pb_or (pb_not (pb_chain c_le c_lt (PV.ab pv_int) (PV.ab (pv_ixT (fun t : (T2 Int Int) => [enc t.a, enc t.b]) (fun t => t.a) (fun _ => rfl) (fun _ => rfl) (PV.ab (pv_var (i := 0) (fun s : S_check_part => s.v_part) (fun _ => rfl))))) (PV.ab (pv_ixT (fun t : (T2 Int Int) => [enc t.a, enc t.b]) (fun t => t.b) (fun _ => rfl) (fun _ => rfl) (PV.ab (pv_var (i := 0) (fun s : S_check_part => s.v_part) (fun _ => rfl))))))) (pb_or1 (pb_cmp c_gt (PV.ab (pv_ixT (fun t : (T2 Int Int) => [enc t.a, enc t.b]) (fun t => t.b) (fun _ => rfl) (fun _ => rfl) (PV.ab (pv_var (i := 0) (fun s : S_check_part => s.v_part) (fun _ => rfl))))) (PV.ab (pv_gint (i := 1000) (by rfl) T.c_MOST_SECOND.choose_spec ⟨_, rfl⟩))))))
  (bv_cons (sl'' := sl_check_part_0) sv_never
  (bv_nil (sl := sl_check_part_0) (h := fun s => s) (fun _ => Wk.refl _)))
  (bv_nil (h := fun (s : S_check_part) => (s : S_check_part)) (fun _ => (.s .nil))))
  (bv_nil (h := fun (s : S_check_part) => (s : S_check_part)) (fun _ => (.s .nil))))))
/-! ## check_base -/
structure S_check_base where
  mk ::
  v_base : Int
@[reducible] def sl_check_base_0 (s : S_check_base) : Sl := (fun s : S_check_base => ([some (Mo.a, enc s.v_base)] : Sl)) s
def fb_check_base (s : S_check_base) : Option (Out S_check_base Unit) :=
  seqO ((((some (2 : Int)).bind fun x16 => (some s.v_base).bind fun x17 => (some (decide (x16 ≤ x17))).bind fun x19 => if x19 = true then (some (36 : Int)).bind fun x18 => some (decide (x17 ≤ x18)) else some false).bind fun x20 => some (!x20)).bind fun x21 => if x21 = true then
  (seqO (none) fun s =>
  some (Out.nx (ρ := Unit) s))
  else some (Out.nx (ρ := Unit) s)) fun s =>
  some (Out.nx (ρ := Unit) s)
def F_check_base (v_base : Int) : Option Unit := outF (some ()) (fb_check_base (⟨v_base⟩ : S_check_base))
@[reducible] def sa_check_base (a : Int × Unit) : Sl := [some (Mo.a, enc a.1)]
@[reducible] def in_check_base (a : Int × Unit) : S_check_base := ⟨a.1⟩
abbrev N_check_base : List Str := ["base"]
abbrev s_check_base : Stmt := topS 13
theorem sc_check_base : FnScope N_check_base ["base"] (defScope s_check_base) := ⟨rfl, rfl, rfl, by decide +kernel, rfl, by decide +kernel, by decide +kernel⟩
theorem ok_check_base (T : Top K mg) : FnOk P w K mg base CX0 1 T.a_check_base T.d_check_base ["base"] (spF K N_check_base 1 sa_check_base .a (fun a => F_check_base a.1)) := by
  have nd := sc_check_base.nd
  refine fn_v (slE := sl_check_base_0) (fb := fun a => fb_check_base (in_check_base a)) (some ()) T.F_check_base sc_check_base rfl (fun _ h => by cases h; rfl) (.inl rfl) (fun _ => rfl) fun cdv A outer s H E hr => ?_
  exact (bv_wk (sl'' := sl_check_base_0) (h := in_check_base) (fun _ => Wk.refl _)
  (bv_cons (sl'' := sl_check_base_0) (sv_if (pb_not (pb_chain c_le c_le (PV.ab (pv_gint (i := 2) (by rfl) T.c_LEAST_BASE.choose_spec ⟨_, rfl⟩)) (PV.ab (pv_var (i := 0) (fun s : S_check_base => s.v_base) (fun _ => rfl))) (PV.ab (pv_gint (i := 36) (by rfl) T.c_MOST_BASE.choose_spec ⟨_, rfl⟩))))
  (bv_cons (sl'' := sl_check_base_0) sv_never
  (bv_nil (sl := sl_check_base_0) (h := fun s => s) (fun _ => Wk.refl _)))
  (bv_nil (h := fun (s : S_check_base) => (s : S_check_base)) (fun _ => (.s .nil))))
  (bv_nil (h := fun (s : S_check_base) => (s : S_check_base)) (fun _ => (.s .nil)))))
/-! ## check_both -/
structure S_check_both where
  mk ::
  v_part : (T2 Int Int)
  v_base : Int
@[reducible] def sl_check_both_0 (s : S_check_both) : Sl := (fun s : S_check_both => ([some (Mo.a, enc s.v_part), some (Mo.a, enc s.v_base)] : Sl)) s
def fb_check_both (s : S_check_both) : Option (Out S_check_both Unit) :=
  seqO ((((some s.v_part).bind fun x13 => (some ()).bind fun x14 => some (x13, x14)).bind fun x15 => F_check_part x15.1).bind fun _ => some (Out.nx (ρ := Unit) s)) fun s =>
  seqO ((((some s.v_base).bind fun x22 => (some ()).bind fun x23 => some (x22, x23)).bind fun x24 => F_check_base x24.1).bind fun _ => some (Out.nx (ρ := Unit) s)) fun s =>
  some (Out.nx (ρ := Unit) s)
def F_check_both (v_part : (T2 Int Int)) (v_base : Int) : Option Unit := outF (some ()) (fb_check_both (⟨v_part, v_base⟩ : S_check_both))
@[reducible] def sa_check_both (a : (T2 Int Int) × Int × Unit) : Sl := [some (Mo.a, enc a.1), some (Mo.a, enc a.2.1)]
@[reducible] def in_check_both (a : (T2 Int Int) × Int × Unit) : S_check_both := ⟨a.1, a.2.1⟩
abbrev N_check_both : List Str := ["part", "base"]
abbrev s_check_both : Stmt := topS 38
theorem sc_check_both : FnScope N_check_both ["part", "base"] (defScope s_check_both) := ⟨rfl, rfl, rfl, by decide +kernel, rfl, by decide +kernel, by decide +kernel⟩
theorem ok_check_both (T : Top K mg) : FnOk P w K mg base CX0 3 T.a_check_both T.d_check_both ["part", "base"] (spF K N_check_both 2 sa_check_both .a (fun a => F_check_both a.1 a.2.1)) := by
  have nd := sc_check_both.nd
  refine fn_v (slE := sl_check_both_0) (fb := fun a => fb_check_both (in_check_both a)) (some ()) T.F_check_both sc_check_both rfl (fun _ h => by cases h; rfl) (.inl rfl) (fun _ => rfl) fun cdv A outer s H E hr => ?_
  exact (bv_wk (sl'' := sl_check_both_0) (h := in_check_both) (fun _ => Wk.refl _)
  (bv_cons (sl'' := sl_check_both_0) (sv_expr (pv_calla (ok_check_part T) (hr.mono (by decide)) (by rfl) T.m_check_part T.F_check_part.kp T.b_check_part (av_a (pv_var (i := 0) (fun s : S_check_both => s.v_part) (fun _ => rfl)) av_nil) (fun _ => ⟨0, rfl, rfl⟩)))
  (bv_cons (sl'' := sl_check_both_0) (sv_expr (pv_calla (ok_check_base T) (hr.mono (by decide)) (by rfl) T.m_check_base T.F_check_base.kp T.b_check_base (av_a (pv_var (i := 1) (fun s : S_check_both => s.v_base) (fun _ => rfl)) av_nil) (fun _ => ⟨0, rfl, rfl⟩)))
  (bv_nil (h := fun (s : S_check_both) => (s : S_check_both)) (fun _ => (.s (.s .nil)))))))
/-! ## split -/
structure S_split where
  mk ::
  v_number : Int
  v_base : Int
  v_ahead : Int
  v_common : Int
@[reducible] def sl_split_0 (s : S_split) : Sl := (fun s : S_split => ([some (Mo.a, enc s.v_number), some (Mo.a, enc s.v_base), some (Mo.a, enc s.v_ahead), some (Mo.a, enc s.v_common)] : Sl)) s
@[reducible] def sl_split_1 (s : S_split) : Sl := (fun s : S_split => ([some (Mo.a, enc s.v_number), some (Mo.a, enc s.v_base), none, none] : Sl)) s
@[reducible] def sl_split_2 (s : S_split) : Sl := (fun s : S_split => ([some (Mo.a, enc s.v_number), some (Mo.a, enc s.v_base), some (Mo.a, enc s.v_ahead), none] : Sl)) s
def lp_split_0 (s : S_split) : Option (Out S_split (T2 Int Int)) :=
  seqO (((some s.v_number).bind fun x61 => (some s.v_common).bind fun x62 => iDiv x61 x62).bind fun x63 => some (Out.nx (ρ := (T2 Int Int)) { s with v_number := x63 })) fun s =>
  seqO (((some s.v_ahead).bind fun x70 => (some (1 : Int)).bind fun x71 => some (x70 + x71)).bind fun x72 => some (Out.nx (ρ := (T2 Int Int)) { s with v_ahead := x72 })) fun s =>
  seqO (((some s.v_number).bind fun x79 => (some s.v_base).bind fun x80 => some ((Nat.gcd x79.natAbs x80.natAbs : Nat) : Int)).bind fun x81 => some (Out.nx (ρ := (T2 Int Int)) { s with v_common := x81 })) fun s =>
  some (Out.nx (ρ := (T2 Int Int)) s)
def lc_split_1 (s : S_split) : Option Bool :=
  (some s.v_common).bind fun x53 => (some (1 : Int)).bind fun x54 => some (decide (x53 > x54))
def fb_split (s : S_split) : Option (Out S_split (T2 Int Int)) :=
  seqO ((some (0 : Int)).bind fun x21 => some (Out.nx (ρ := (T2 Int Int)) { s with v_ahead := x21 })) fun s =>
  seqO (((some s.v_number).bind fun x28 => (some s.v_base).bind fun x29 => some ((Nat.gcd x28.natAbs x29.natAbs : Nat) : Int)).bind fun x30 => some (Out.nx (ρ := (T2 Int Int)) { s with v_common := x30 })) fun s =>
  seqO (whileO lc_split_1 lp_split_0 FUEL s) fun s =>
  seqO (((some s.v_ahead).bind fun x88 => (some s.v_number).bind fun x89 => some (T2.mk x88 x89)).bind fun x90 => some (Out.rt x90)) fun s =>
  some (Out.nx (ρ := (T2 Int Int)) s)
def F_split (v_number : Int) (v_base : Int) : Option (T2 Int Int) := outF none (fb_split (⟨v_number, v_base, 0, 0⟩ : S_split))
@[reducible] def sa_split (a : Int × Int × Unit) : Sl := [some (Mo.a, enc a.1), some (Mo.a, enc a.2.1), none, none]
@[reducible] def in_split (a : Int × Int × Unit) : S_split := ⟨a.1, a.2.1, 0, 0⟩
abbrev N_split : List Str := ["number", "base", "ahead", "common"]
abbrev s_split : Stmt := topS 39
theorem sc_split : FnScope N_split ["number", "base"] (defScope s_split) := ⟨rfl, rfl, rfl, by decide +kernel, rfl, by decide +kernel, by decide +kernel⟩
theorem ok_split (T : Top K mg) : FnOk P w K mg base CX0 1 T.a_split T.d_split ["number", "base"] (spF K N_split 2 sa_split .a (fun a => F_split a.1 a.2.1)) := by
  have nd := sc_split.nd
  refine fn_v (slE := sl_split_1) (fb := fun a => fb_split (in_split a)) none T.F_split sc_split rfl (fun _ h => nomatch h) (.inl rfl) (fun _ => rfl) fun cdv A outer s H E hr => ?_
  exact (bv_wk (sl'' := sl_split_1) (h := in_split) (fun _ => Wk.refl _)
  (bv_cons (sl'' := sl_split_2) (sv_set (i := 2) (fun (s : S_split) t => { s with v_ahead := t }) (fun _ _ => rfl) nd pv_int)
  (bv_cons (sl'' := sl_split_0) (sv_set (i := 3) (fun (s : S_split) t => { s with v_common := t }) (fun _ _ => rfl) nd (pv_gcd' (by rfl) T.b_gcd (PV.ab (pv_var (i := 0) (fun s : S_split => s.v_number) (fun _ => rfl))) (PV.ab (pv_var (i := 1) (fun s : S_split => s.v_base) (fun _ => rfl)))))
  (bv_cons (sl'' := sl_split_0) (sv_while (sl := sl_split_0) FUEL PassesOwn.never (pb_cmp c_gt (PV.ab (pv_var (i := 3) (fun s : S_split => s.v_common) (fun _ => rfl))) (PV.ab pv_int))
  (bv_cons (sl'' := sl_split_0) (sv_set (i := 0) (fun (s : S_split) t => { s with v_number := t }) (fun _ _ => rfl) nd (pv_div (PV.ab (pv_var (i := 0) (fun s : S_split => s.v_number) (fun _ => rfl))) (PV.ab (pv_var (i := 3) (fun s : S_split => s.v_common) (fun _ => rfl)))))
  (bv_cons (sl'' := sl_split_0) (sv_set (i := 2) (fun (s : S_split) t => { s with v_ahead := t }) (fun _ _ => rfl) nd (pv_add (PV.ab (pv_var (i := 2) (fun s : S_split => s.v_ahead) (fun _ => rfl))) (PV.ab pv_int)))
  (bv_cons (sl'' := sl_split_0) (sv_set (i := 3) (fun (s : S_split) t => { s with v_common := t }) (fun _ _ => rfl) nd (pv_gcd' (by rfl) T.b_gcd (PV.ab (pv_var (i := 0) (fun s : S_split => s.v_number) (fun _ => rfl))) (PV.ab (pv_var (i := 1) (fun s : S_split => s.v_base) (fun _ => rfl)))))
  (bv_nil (h := fun (s : S_split) => (s : S_split)) (fun _ => (.s (.s (.s (.s .nil))))))))))
  (bv_cons (sl'' := sl_split_1) (sv_ret (pv_tup2 (pv_var (i := 2) (fun s : S_split => s.v_ahead) (fun _ => rfl)) (pv_var (i := 0) (fun s : S_split => s.v_number) (fun _ => rfl))))
  (bv_nil (sl := sl_split_1) (h := fun s => s) (fun _ => Wk.refl _)))))))
/-! ## lengths_of -/
structure S_lengths_of where
  mk ::
  v_part : (T2 Int Int)
  v_base : Int
  v_ahead : Int
  v_rest : Int
  v_again : Int
  v_power : Int
@[reducible] def sl_lengths_of_0 (s : S_lengths_of) : Sl := (fun s : S_lengths_of => ([some (Mo.a, enc s.v_part), some (Mo.a, enc s.v_base), some (Mo.a, enc s.v_ahead), none, none, none] : Sl)) s
@[reducible] def sl_lengths_of_1 (s : S_lengths_of) : Sl := (fun s : S_lengths_of => ([some (Mo.a, enc s.v_part), some (Mo.a, enc s.v_base), some (Mo.a, enc s.v_ahead), some (Mo.a, enc s.v_rest), none, none] : Sl)) s
@[reducible] def sl_lengths_of_2 (s : S_lengths_of) : Sl := (fun s : S_lengths_of => ([some (Mo.a, enc s.v_part), some (Mo.a, enc s.v_base), some (Mo.a, enc s.v_ahead), some (Mo.a, enc s.v_rest), some (Mo.a, enc s.v_again), some (Mo.a, enc s.v_power)] : Sl)) s
@[reducible] def sl_lengths_of_3 (s : S_lengths_of) : Sl := (fun s : S_lengths_of => ([some (Mo.a, enc s.v_part), some (Mo.a, enc s.v_base), none, none, none, none] : Sl)) s
@[reducible] def sl_lengths_of_4 (s : S_lengths_of) : Sl := (fun s : S_lengths_of => ([some (Mo.a, enc s.v_part), some (Mo.a, enc s.v_base), some (Mo.a, enc s.v_ahead), some (Mo.a, enc s.v_rest), some (Mo.a, enc s.v_again), none] : Sl)) s
def lp_lengths_of_0 (s : S_lengths_of) : Option (Out S_lengths_of (T2 Int Int)) :=
  seqO ((((some s.v_power).bind fun x114 => (some s.v_base).bind fun x115 => iMul x114 x115).bind fun x116 => (some s.v_rest).bind fun x117 => iMod x116 x117).bind fun x118 => some (Out.nx (ρ := (T2 Int Int)) { s with v_power := x118 })) fun s =>
  seqO (((some s.v_again).bind fun x125 => (some (1 : Int)).bind fun x126 => some (x125 + x126)).bind fun x127 => some (Out.nx (ρ := (T2 Int Int)) { s with v_again := x127 })) fun s =>
  some (Out.nx (ρ := (T2 Int Int)) s)
def lc_lengths_of_1 (s : S_lengths_of) : Option Bool :=
  (some s.v_power).bind fun x102 => (some (1 : Int)).bind fun x103 => some (!decide (x102 = x103))
def fb_lengths_of (s : S_lengths_of) : Option (Out S_lengths_of (T2 Int Int)) :=
  seqO (((((some s.v_part).bind fun x44 => some x44.b).bind fun x45 => ((some s.v_base).bind fun x46 => (some ()).bind fun x47 => some (x46, x47)).bind fun x48 => some (x45, x48)).bind fun x49 => F_split x49.1 x49.2.1).bind fun x50 => some (Out.nx (ρ := (T2 Int Int)) ((fun (s : S_lengths_of) (t : (T2 Int Int)) => { ({ s with v_ahead := t.a }) with v_rest := t.b }) s x50))) fun s =>
  seqO (((some s.v_rest).bind fun x58 => (some (1 : Int)).bind fun x59 => some (decide (x58 = x59))).bind fun x69 => if x69 = true then
  (seqO (((some s.v_ahead).bind fun x66 => (some (0 : Int)).bind fun x67 => some (T2.mk x66 x67)).bind fun x68 => some (Out.rt x68)) fun s =>
  some (Out.nx (ρ := (T2 Int Int)) s))
  else some (Out.nx (ρ := (T2 Int Int)) s)) fun s =>
  seqO ((some (1 : Int)).bind fun x72 => some (Out.nx (ρ := (T2 Int Int)) { s with v_again := x72 })) fun s =>
  seqO (((some s.v_base).bind fun x79 => (some s.v_rest).bind fun x80 => iMod x79 x80).bind fun x81 => some (Out.nx (ρ := (T2 Int Int)) { s with v_power := x81 })) fun s =>
  seqO (whileO lc_lengths_of_1 lp_lengths_of_0 FUEL s) fun s =>
  seqO (((some s.v_ahead).bind fun x134 => (some s.v_again).bind fun x135 => some (T2.mk x134 x135)).bind fun x136 => some (Out.rt x136)) fun s =>
  some (Out.nx (ρ := (T2 Int Int)) s)
def F_lengths_of (v_part : (T2 Int Int)) (v_base : Int) : Option (T2 Int Int) := outF none (fb_lengths_of (⟨v_part, v_base, 0, 0, 0, 0⟩ : S_lengths_of))
@[reducible] def sa_lengths_of (a : (T2 Int Int) × Int × Unit) : Sl := [some (Mo.a, enc a.1), some (Mo.a, enc a.2.1), none, none, none, none]
@[reducible] def in_lengths_of (a : (T2 Int Int) × Int × Unit) : S_lengths_of := ⟨a.1, a.2.1, 0, 0, 0, 0⟩
abbrev N_lengths_of : List Str := ["part", "base", "ahead", "rest", "again", "power"]
abbrev s_lengths_of : Stmt := topS 41
theorem sc_lengths_of : FnScope N_lengths_of ["part", "base"] (defScope s_lengths_of) := ⟨rfl, rfl, rfl, by decide +kernel, rfl, by decide +kernel, by decide +kernel⟩
theorem ok_lengths_of (T : Top K mg) : FnOk P w K mg base CX0 2 T.a_lengths_of T.d_lengths_of ["part", "base"] (spF K N_lengths_of 2 sa_lengths_of .a (fun a => F_lengths_of a.1 a.2.1)) := by
  have nd := sc_lengths_of.nd
  refine fn_v (slE := sl_lengths_of_3) (fb := fun a => fb_lengths_of (in_lengths_of a)) none T.F_lengths_of sc_lengths_of rfl (fun _ h => nomatch h) (.inl rfl) (fun _ => rfl) fun cdv A outer s H E hr => ?_
  exact (bv_wk (sl'' := sl_lengths_of_3) (h := in_lengths_of) (fun _ => Wk.refl _)
  (bv_cons (sl'' := sl_lengths_of_1) (sv_tup (gv_tup (fun t : (T2 Int Int) => [enc t.a, enc t.b]) (fun _ => rfl) (fun _ => rfl) (gvs_cons (p1 := fun t : (T2 Int Int) => t.a) (p2 := fun t : (T2 Int Int) => t) (gv_name (i := 2) (slb := sl_lengths_of_0) (set := fun (s : S_lengths_of) (t : Int) => { s with v_ahead := t }) (fun _ _ => rfl) nd) (gvs_cons (p1 := fun t : (T2 Int Int) => t.b) (p2 := fun t : (T2 Int Int) => t) (gv_name (i := 3) (slb := sl_lengths_of_1) (set := fun (s : S_lengths_of) (t : Int) => { s with v_rest := t }) (fun _ _ => rfl) nd) gvs_nil))) (pv_calla (ok_split T) (hr.mono (by decide)) (by rfl) T.m_split T.F_split.kp T.b_split (av_a (pv_ixT (fun t : (T2 Int Int) => [enc t.a, enc t.b]) (fun t => t.b) (fun _ => rfl) (fun _ => rfl) (PV.ab (pv_var (i := 0) (fun s : S_lengths_of => s.v_part) (fun _ => rfl)))) (av_a (pv_var (i := 1) (fun s : S_lengths_of => s.v_base) (fun _ => rfl)) av_nil)) (fun _ => ⟨2, rfl, rfl⟩)))
  (bv_cons (sl'' := sl_lengths_of_1) (sv_if (pb_cmp c_eqS (PV.ab (pv_var (i := 3) (fun s : S_lengths_of => s.v_rest) (fun _ => rfl))) (PV.ab pv_int))
  (bv_cons (sl'' := sl_lengths_of_1) (sv_ret (pv_tup2 (pv_var (i := 2) (fun s : S_lengths_of => s.v_ahead) (fun _ => rfl)) pv_int))
  (bv_nil (sl := sl_lengths_of_1) (h := fun s => s) (fun _ => Wk.refl _)))
  (bv_nil (h := fun (s : S_lengths_of) => (s : S_lengths_of)) (fun _ => (.s (.s (.s (.s (.s (.s .nil)))))))))
  (bv_cons (sl'' := sl_lengths_of_4) (sv_set (i := 4) (fun (s : S_lengths_of) t => { s with v_again := t }) (fun _ _ => rfl) nd pv_int)
  (bv_cons (sl'' := sl_lengths_of_2) (sv_set (i := 5) (fun (s : S_lengths_of) t => { s with v_power := t }) (fun _ _ => rfl) nd (pv_mod (PV.ab (pv_var (i := 1) (fun s : S_lengths_of => s.v_base) (fun _ => rfl))) (PV.ab (pv_var (i := 3) (fun s : S_lengths_of => s.v_rest) (fun _ => rfl)))))
  (bv_cons (sl'' := sl_lengths_of_2) (sv_while (sl := sl_lengths_of_2) FUEL PassesOwn.never (pb_cmp c_neS (PV.ab (pv_var (i := 5) (fun s : S_lengths_of => s.v_power) (fun _ => rfl))) (PV.ab pv_int))
  (bv_cons (sl'' := sl_lengths_of_2) (sv_set (i := 5) (fun (s : S_lengths_of) t => { s with v_power := t }) (fun _ _ => rfl) nd (pv_mod (PV.ab (pv_mul (PV.ab (pv_var (i := 5) (fun s : S_lengths_of => s.v_power) (fun _ => rfl))) (PV.ab (pv_var (i := 1) (fun s : S_lengths_of => s.v_base) (fun _ => rfl))))) (PV.ab (pv_var (i := 3) (fun s : S_lengths_of => s.v_rest) (fun _ => rfl)))))
  (bv_cons (sl'' := sl_lengths_of_2) (sv_set (i := 4) (fun (s : S_lengths_of) t => { s with v_again := t }) (fun _ _ => rfl) nd (pv_add (PV.ab (pv_var (i := 4) (fun s : S_lengths_of => s.v_again) (fun _ => rfl))) (PV.ab pv_int)))
  (bv_nil (h := fun (s : S_lengths_of) => (s : S_lengths_of)) (fun _ => (.s (.s (.s (.s (.s (.s .nil)))))))))))
  (bv_cons (sl'' := sl_lengths_of_3) (sv_ret (pv_tup2 (pv_var (i := 2) (fun s : S_lengths_of => s.v_ahead) (fun _ => rfl)) (pv_var (i := 4) (fun s : S_lengths_of => s.v_again) (fun _ => rfl))))
  (bv_nil (sl := sl_lengths_of_3) (h := fun s => s) (fun _ => Wk.refl _)))))))))
/-! ## lengths -/
structure S_lengths where
  mk ::
  v_part : (T2 Int Int)
  v_base : Int
@[reducible] def sl_lengths_0 (s : S_lengths) : Sl := (fun s : S_lengths => ([some (Mo.a, enc s.v_part), some (Mo.a, enc s.v_base)] : Sl)) s
def fb_lengths (s : S_lengths) : Option (Out S_lengths (T2 Int Int)) :=
  seqO ((((some s.v_part).bind fun x22 => ((some s.v_base).bind fun x23 => (some ()).bind fun x24 => some (x23, x24)).bind fun x25 => some (x22, x25)).bind fun x26 => F_check_both x26.1 x26.2.1).bind fun _ => some (Out.nx (ρ := (T2 Int Int)) s)) fun s =>
  seqO ((((some s.v_part).bind fun x39 => ((some s.v_base).bind fun x40 => (some ()).bind fun x41 => some (x40, x41)).bind fun x42 => some (x39, x42)).bind fun x43 => F_lengths_of x43.1 x43.2.1).bind fun x44 => some (Out.rt x44)) fun s =>
  some (Out.nx (ρ := (T2 Int Int)) s)
def F_lengths (v_part : (T2 Int Int)) (v_base : Int) : Option (T2 Int Int) := outF none (fb_lengths (⟨v_part, v_base⟩ : S_lengths))
@[reducible] def sa_lengths (a : (T2 Int Int) × Int × Unit) : Sl := [some (Mo.a, enc a.1), some (Mo.a, enc a.2.1)]
@[reducible] def in_lengths (a : (T2 Int Int) × Int × Unit) : S_lengths := ⟨a.1, a.2.1⟩
abbrev N_lengths : List Str := ["part", "base"]
abbrev s_lengths : Stmt := topS 42
theorem sc_lengths : FnScope N_lengths ["part", "base"] (defScope s_lengths) := ⟨rfl, rfl, rfl, by decide +kernel, rfl, by decide +kernel, by decide +kernel⟩
theorem ok_lengths (T : Top K mg) : FnOk P w K mg base CX0 4 T.a_lengths T.d_lengths ["part", "base"] (spF K N_lengths 2 sa_lengths .a (fun a => F_lengths a.1 a.2.1)) := by
  have nd := sc_lengths.nd
  refine fn_v (slE := sl_lengths_0) (fb := fun a => fb_lengths (in_lengths a)) none T.F_lengths sc_lengths rfl (fun _ h => nomatch h) (.inl rfl) (fun _ => rfl) fun cdv A outer s H E hr => ?_
  exact (bv_wk (sl'' := sl_lengths_0) (h := in_lengths) (fun _ => Wk.refl _)
  (bv_cons (sl'' := sl_lengths_0) (sv_expr (pv_calla (ok_check_both T) (hr.mono (by decide)) (by rfl) T.m_check_both T.F_check_both.kp T.b_check_both (av_a (pv_var (i := 0) (fun s : S_lengths => s.v_part) (fun _ => rfl)) (av_a (pv_var (i := 1) (fun s : S_lengths => s.v_base) (fun _ => rfl)) av_nil)) (fun _ => ⟨0, rfl, rfl⟩)))
  (bv_cons (sl'' := sl_lengths_0) (sv_ret (pv_calla (ok_lengths_of T) (hr.mono (by decide)) (by rfl) T.m_lengths_of T.F_lengths_of.kp T.b_lengths_of (av_a (pv_var (i := 0) (fun s : S_lengths => s.v_part) (fun _ => rfl)) (av_a (pv_var (i := 1) (fun s : S_lengths => s.v_base) (fun _ => rfl)) av_nil)) (fun _ => ⟨4, rfl, rfl⟩)))
  (bv_nil (sl := sl_lengths_0) (h := fun s => s) (fun _ => Wk.refl _)))))
/-! ## ends -/
structure S_ends where
  mk ::
  v_part : (T2 Int Int)
  v_base : Int
@[reducible] def sl_ends_0 (s : S_ends) : Sl := (fun s : S_ends => ([some (Mo.a, enc s.v_part), some (Mo.a, enc s.v_base)] : Sl)) s
def fb_ends (s : S_ends) : Option (Out S_ends Bool) :=
  seqO ((((some s.v_part).bind fun x26 => ((some s.v_base).bind fun x27 => (some ()).bind fun x28 => some (x27, x28)).bind fun x29 => some (x26, x29)).bind fun x30 => F_check_both x30.1 x30.2.1).bind fun _ => some (Out.nx (ρ := Bool) s)) fun s =>
  seqO (((((((some s.v_part).bind fun x51 => some x51.b).bind fun x52 => ((some s.v_base).bind fun x53 => (some ()).bind fun x54 => some (x53, x54)).bind fun x55 => some (x52, x55)).bind fun x56 => F_split x56.1 x56.2.1).bind fun x57 => some x57.b).bind fun x58 => (some (1 : Int)).bind fun x59 => some (decide (x58 = x59))).bind fun x60 => some (Out.rt x60)) fun s =>
  some (Out.nx (ρ := Bool) s)
def F_ends (v_part : (T2 Int Int)) (v_base : Int) : Option Bool := outF none (fb_ends (⟨v_part, v_base⟩ : S_ends))
@[reducible] def sa_ends (a : (T2 Int Int) × Int × Unit) : Sl := [some (Mo.a, enc a.1), some (Mo.a, enc a.2.1)]
@[reducible] def in_ends (a : (T2 Int Int) × Int × Unit) : S_ends := ⟨a.1, a.2.1⟩
abbrev N_ends : List Str := ["part", "base"]
abbrev s_ends : Stmt := topS 40
theorem sc_ends : FnScope N_ends ["part", "base"] (defScope s_ends) := ⟨rfl, rfl, rfl, by decide +kernel, rfl, by decide +kernel, by decide +kernel⟩
theorem ok_ends (T : Top K mg) : FnOk P w K mg base CX0 4 T.a_ends T.d_ends ["part", "base"] (spF K N_ends 2 sa_ends .a (fun a => F_ends a.1 a.2.1)) := by
  have nd := sc_ends.nd
  refine fn_v (slE := sl_ends_0) (fb := fun a => fb_ends (in_ends a)) none T.F_ends sc_ends rfl (fun _ h => nomatch h) (.inl rfl) (fun _ => rfl) fun cdv A outer s H E hr => ?_
  exact (bv_wk (sl'' := sl_ends_0) (h := in_ends) (fun _ => Wk.refl _)
  (bv_cons (sl'' := sl_ends_0) (sv_expr (pv_calla (ok_check_both T) (hr.mono (by decide)) (by rfl) T.m_check_both T.F_check_both.kp T.b_check_both (av_a (pv_var (i := 0) (fun s : S_ends => s.v_part) (fun _ => rfl)) (av_a (pv_var (i := 1) (fun s : S_ends => s.v_base) (fun _ => rfl)) av_nil)) (fun _ => ⟨0, rfl, rfl⟩)))
  (bv_cons (sl'' := sl_ends_0) (sv_ret (pv_cmp c_eqS (PV.ab (pv_ixT (fun t : (T2 Int Int) => [enc t.a, enc t.b]) (fun t => t.b) (fun _ => rfl) (fun _ => rfl) (PV.ab (pv_calla (ok_split T) (hr.mono (by decide)) (by rfl) T.m_split T.F_split.kp T.b_split (av_a (pv_ixT (fun t : (T2 Int Int) => [enc t.a, enc t.b]) (fun t => t.b) (fun _ => rfl) (fun _ => rfl) (PV.ab (pv_var (i := 0) (fun s : S_ends => s.v_part) (fun _ => rfl)))) (av_a (pv_var (i := 1) (fun s : S_ends => s.v_base) (fun _ => rfl)) av_nil)) (fun _ => ⟨2, rfl, rfl⟩))))) (PV.ab pv_int)))
  (bv_nil (sl := sl_ends_0) (h := fun s => s) (fun _ => Wk.refl _)))))
/-! ## digits -/
structure S_digits where
  mk ::
  v_part : (T2 Int Int)
  v_base : Int
  v_ahead : Int
  v_again : Int
  v_found : Tx
  v_rest : Int
  v__ : Int
@[reducible] def sl_digits_0 (s : S_digits) : Sl := (fun s : S_digits => ([some (Mo.a, enc s.v_part), some (Mo.a, enc s.v_base), some (Mo.a, enc s.v_ahead), none, none, none, none] : Sl)) s
@[reducible] def sl_digits_1 (s : S_digits) : Sl := (fun s : S_digits => ([some (Mo.a, enc s.v_part), some (Mo.a, enc s.v_base), some (Mo.a, enc s.v_ahead), some (Mo.a, enc s.v_again), none, none, none] : Sl)) s
@[reducible] def sl_digits_2 (s : S_digits) : Sl := (fun s : S_digits => ([some (Mo.a, enc s.v_part), some (Mo.a, enc s.v_base), some (Mo.a, enc s.v_ahead), some (Mo.a, enc s.v_again), some (Mo.a, enc s.v_found), some (Mo.a, enc s.v_rest), some (Mo.a, enc s.v__)] : Sl)) s
@[reducible] def sl_digits_3 (s : S_digits) : Sl := (fun s : S_digits => ([some (Mo.a, enc s.v_part), some (Mo.a, enc s.v_base), some (Mo.a, enc s.v_ahead), some (Mo.a, enc s.v_again), some (Mo.a, enc s.v_found), some (Mo.a, enc s.v_rest), none] : Sl)) s
@[reducible] def sl_digits_4 (s : S_digits) : Sl := (fun s : S_digits => ([some (Mo.a, enc s.v_part), some (Mo.a, enc s.v_base), none, none, none, none, none] : Sl)) s
@[reducible] def sl_digits_5 (s : S_digits) : Sl := (fun s : S_digits => ([some (Mo.a, enc s.v_part), some (Mo.a, enc s.v_base), some (Mo.a, enc s.v_ahead), some (Mo.a, enc s.v_again), some (Mo.a, enc s.v_found), none, none] : Sl)) s
def lp_digits_0 (s : S_digits) : Option (Out S_digits (T2 Tx Tx)) :=
  seqO (((some s.v_rest).bind fun x134 => (some s.v_base).bind fun x135 => iMul x134 x135).bind fun x136 => some (Out.nx (ρ := (T2 Tx Tx)) { s with v_rest := x136 })) fun s =>
  seqO (((some s.v_found).bind fun x158 => ((some (⟨c_DIGITS_l⟩ : Tx)).bind fun x156 => ((some s.v_rest).bind fun x154 => ((some s.v_part).bind fun x153 => some x153.b).bind fun x155 => iDiv x154 x155).bind fun x157 => sIx x156 x157).bind fun x159 => tCat x158 x159).bind fun x160 => some (Out.nx (ρ := (T2 Tx Tx)) { s with v_found := x160 })) fun s =>
  seqO (((some s.v_rest).bind fun x170 => ((some s.v_part).bind fun x169 => some x169.b).bind fun x171 => iMod x170 x171).bind fun x172 => some (Out.nx (ρ := (T2 Tx Tx)) { s with v_rest := x172 })) fun s =>
  some (Out.nx (ρ := (T2 Tx Tx)) { s with v__ := 0 })
def fb_digits (s : S_digits) : Option (Out S_digits (T2 Tx Tx)) :=
  seqO ((((some s.v_part).bind fun x54 => ((some s.v_base).bind fun x55 => (some ()).bind fun x56 => some (x55, x56)).bind fun x57 => some (x54, x57)).bind fun x58 => F_check_both x58.1 x58.2.1).bind fun _ => some (Out.nx (ρ := (T2 Tx Tx)) s)) fun s =>
  seqO ((((some s.v_part).bind fun x71 => ((some s.v_base).bind fun x72 => (some ()).bind fun x73 => some (x72, x73)).bind fun x74 => some (x71, x74)).bind fun x75 => F_lengths_of x75.1 x75.2.1).bind fun x76 => some (Out.nx (ρ := (T2 Tx Tx)) ((fun (s : S_digits) (t : (T2 Int Int)) => { ({ s with v_ahead := t.a }) with v_again := t.b }) s x76))) fun s =>
  seqO ((some (⟨[]⟩ : Tx)).bind fun x79 => some (Out.nx (ρ := (T2 Tx Tx)) { s with v_found := x79 })) fun s =>
  seqO (((some s.v_part).bind fun x84 => some x84.a).bind fun x85 => some (Out.nx (ρ := (T2 Tx Tx)) { s with v_rest := x85 })) fun s =>
  seqO ((((some s.v_ahead).bind fun x125 => (some s.v_again).bind fun x126 => some (x125 + x126)).bind fun x127 => rng1 x127).bind fun x173 => forO (fun (s : S_digits) (t : Int) => { s with v__ := t }) lp_digits_0 x173 s) fun s =>
  seqO ((((some s.v_found).bind fun x197 => (some (none : Option Int)).bind fun x198 => ((some s.v_ahead).bind fun x196 => some (some x196)).bind fun x199 => cutT x197 x198 x199).bind fun x204 => ((some s.v_found).bind fun x201 => ((some s.v_ahead).bind fun x200 => some (some x200)).bind fun x202 => (some (none : Option Int)).bind fun x203 => cutT x201 x202 x203).bind fun x205 => some (T2.mk x204 x205)).bind fun x206 => some (Out.rt x206)) fun s =>
  some (Out.nx (ρ := (T2 Tx Tx)) s)
def F_digits (v_part : (T2 Int Int)) (v_base : Int) : Option (T2 Tx Tx) := outF none (fb_digits (⟨v_part, v_base, 0, 0, ⟨[]⟩, 0, 0⟩ : S_digits))
@[reducible] def sa_digits (a : (T2 Int Int) × Int × Unit) : Sl := [some (Mo.a, enc a.1), some (Mo.a, enc a.2.1), none, none, none, none, none]
@[reducible] def in_digits (a : (T2 Int Int) × Int × Unit) : S_digits := ⟨a.1, a.2.1, 0, 0, ⟨[]⟩, 0, 0⟩
abbrev N_digits : List Str := ["part", "base", "ahead", "again", "found", "rest", "_"]
abbrev s_digits : Stmt := topS 43
theorem sc_digits : FnScope N_digits ["part", "base"] (defScope s_digits) := ⟨rfl, rfl, rfl, by decide +kernel, rfl, by decide +kernel, by decide +kernel⟩
theorem ok_digits (T : Top K mg) : FnOk P w K mg base CX0 4 T.a_digits T.d_digits ["part", "base"] (spF K N_digits 2 sa_digits .a (fun a => F_digits a.1 a.2.1)) := by
  have nd := sc_digits.nd
  refine fn_v (slE := sl_digits_4) (fb := fun a => fb_digits (in_digits a)) none T.F_digits sc_digits rfl (fun _ h => nomatch h) (.inl rfl) (fun _ => rfl) fun cdv A outer s H E hr => ?_
  exact (bv_wk (sl'' := sl_digits_4) (h := in_digits) (fun _ => Wk.refl _)
  (bv_cons (sl'' := sl_digits_4) (sv_expr (pv_calla (ok_check_both T) (hr.mono (by decide)) (by rfl) T.m_check_both T.F_check_both.kp T.b_check_both (av_a (pv_var (i := 0) (fun s : S_digits => s.v_part) (fun _ => rfl)) (av_a (pv_var (i := 1) (fun s : S_digits => s.v_base) (fun _ => rfl)) av_nil)) (fun _ => ⟨0, rfl, rfl⟩)))
  (bv_cons (sl'' := sl_digits_1) (sv_tup (gv_tup (fun t : (T2 Int Int) => [enc t.a, enc t.b]) (fun _ => rfl) (fun _ => rfl) (gvs_cons (p1 := fun t : (T2 Int Int) => t.a) (p2 := fun t : (T2 Int Int) => t) (gv_name (i := 2) (slb := sl_digits_0) (set := fun (s : S_digits) (t : Int) => { s with v_ahead := t }) (fun _ _ => rfl) nd) (gvs_cons (p1 := fun t : (T2 Int Int) => t.b) (p2 := fun t : (T2 Int Int) => t) (gv_name (i := 3) (slb := sl_digits_1) (set := fun (s : S_digits) (t : Int) => { s with v_again := t }) (fun _ _ => rfl) nd) gvs_nil))) (pv_calla (ok_lengths_of T) (hr.mono (by decide)) (by rfl) T.m_lengths_of T.F_lengths_of.kp T.b_lengths_of (av_a (pv_var (i := 0) (fun s : S_digits => s.v_part) (fun _ => rfl)) (av_a (pv_var (i := 1) (fun s : S_digits => s.v_base) (fun _ => rfl)) av_nil)) (fun _ => ⟨4, rfl, rfl⟩)))
  (bv_cons (sl'' := sl_digits_5) (sv_set (i := 4) (fun (s : S_digits) t => { s with v_found := t }) (fun _ _ => rfl) nd (pv_str []))
  (bv_cons (sl'' := sl_digits_3) (sv_set (i := 5) (fun (s : S_digits) t => { s with v_rest := t }) (fun _ _ => rfl) nd (pv_ixT (fun t : (T2 Int Int) => [enc t.a, enc t.b]) (fun t => t.a) (fun _ => rfl) (fun _ => rfl) (PV.ab (pv_var (i := 0) (fun s : S_digits => s.v_part) (fun _ => rfl)))))
  (bv_cons (sl'' := sl_digits_3) (sv_for (sl := sl_digits_3) PassesOwn.never (piv_range1 (by rfl) T.z_range (PV.ab (pv_add (PV.ab (pv_var (i := 2) (fun s : S_digits => s.v_ahead) (fun _ => rfl))) (PV.ab (pv_var (i := 3) (fun s : S_digits => s.v_again) (fun _ => rfl)))))) (gv_name (i := 6) (slb := sl_digits_2) (set := (fun (s : S_digits) (t : Int) => { s with v__ := t })) (fun _ _ => rfl) nd)
  (bv_cons (sl'' := sl_digits_2) (sv_set (i := 5) (fun (s : S_digits) t => { s with v_rest := t }) (fun _ _ => rfl) nd (pv_mul (PV.ab (pv_var (i := 5) (fun s : S_digits => s.v_rest) (fun _ => rfl))) (PV.ab (pv_var (i := 1) (fun s : S_digits => s.v_base) (fun _ => rfl)))))
  (bv_cons (sl'' := sl_digits_2) (sv_set (i := 4) (fun (s : S_digits) t => { s with v_found := t }) (fun _ _ => rfl) nd (pv_catS (PV.ab (pv_var (i := 4) (fun s : S_digits => s.v_found) (fun _ => rfl))) (PV.ab (pv_ixS (PV.ab (pv_gstr c_DIGITS_l (by rfl) T.c_DIGITS.choose_spec ⟨_, rfl⟩)) (PV.ab (pv_div (PV.ab (pv_var (i := 5) (fun s : S_digits => s.v_rest) (fun _ => rfl))) (PV.ab (pv_ixT (fun t : (T2 Int Int) => [enc t.a, enc t.b]) (fun t => t.b) (fun _ => rfl) (fun _ => rfl) (PV.ab (pv_var (i := 0) (fun s : S_digits => s.v_part) (fun _ => rfl)))))))))))
  (bv_cons (sl'' := sl_digits_2) (sv_set (i := 5) (fun (s : S_digits) t => { s with v_rest := t }) (fun _ _ => rfl) nd (pv_mod (PV.ab (pv_var (i := 5) (fun s : S_digits => s.v_rest) (fun _ => rfl))) (PV.ab (pv_ixT (fun t : (T2 Int Int) => [enc t.a, enc t.b]) (fun t => t.b) (fun _ => rfl) (fun _ => rfl) (PV.ab (pv_var (i := 0) (fun s : S_digits => s.v_part) (fun _ => rfl)))))))
  (bv_nil (h := fun (s : S_digits) => ({ s with v__ := 0 } : S_digits)) (fun _ => (.s (.s (.s (.s (.s (.s (.d .nil)))))))))))))
  (bv_cons (sl'' := sl_digits_4) (sv_ret (pv_tup2 (pv_slS (PV.ab (pv_var (i := 4) (fun s : S_digits => s.v_found) (fun _ => rfl))) pvo_none (pvo_some (PV.ab (pv_var (i := 2) (fun s : S_digits => s.v_ahead) (fun _ => rfl))))) (pv_slS (PV.ab (pv_var (i := 4) (fun s : S_digits => s.v_found) (fun _ => rfl))) (pvo_some (PV.ab (pv_var (i := 2) (fun s : S_digits => s.v_ahead) (fun _ => rfl)))) pvo_none)))
  (bv_nil (sl := sl_digits_4) (h := fun s => s) (fun _ => Wk.refl _)))))))))
/-! ## _law_mix -/
structure S__law_mix where
  mk ::
  v_draws : (List Int)
  v_k : Int
  v_many : Int
  v_cell : Int
@[reducible] def sl__law_mix_0 (s : S__law_mix) : Sl := (fun s : S__law_mix => ([some (Mo.b, enc s.v_draws), some (Mo.a, enc s.v_k), some (Mo.a, enc s.v_many), some (Mo.a, enc s.v_cell)] : Sl)) s
@[reducible] def sl__law_mix_1 (s : S__law_mix) : Sl := (fun s : S__law_mix => ([some (Mo.b, enc s.v_draws), some (Mo.a, enc s.v_k), some (Mo.a, enc s.v_many), none] : Sl)) s
def fb__law_mix (s : S__law_mix) : Option (Out S__law_mix Int) :=
  seqO ((some (0 : Int)).bind fun x34 => some (Out.nx (ρ := Int) { s with v_cell := x34 })) fun s =>
  seqO ((((some s.v_draws).bind fun x48 => some (x48.length : Int)).bind fun x49 => (some (0 : Int)).bind fun x50 => some (decide (x49 > x50))).bind fun x72 => if x72 = true then
  (seqO (((some s.v_draws).bind fun x69 => (((some s.v_k).bind fun x65 => some x65).bind fun x67 => ((some s.v_draws).bind fun x66 => some (x66.length : Int)).bind fun x68 => iMod x67 x68).bind fun x70 => atI x69 x70).bind fun x71 => some (Out.nx (ρ := Int) { s with v_cell := x71 })) fun s =>
  some (Out.nx (ρ := Int) s))
  else some (Out.nx (ρ := Int) s)) fun s =>
  seqO (((some s.v_k).bind fun x84 => ((some s.v_draws).bind fun x83 => some (x83.length : Int)).bind fun x85 => some (decide (x84 < x85))).bind fun x98 => if x98 = true then
  (seqO ((((some s.v_cell).bind fun x94 => some x94).bind fun x95 => (some s.v_many).bind fun x96 => iMod x95 x96).bind fun x97 => some (Out.rt x97)) fun s =>
  some (Out.nx (ρ := Int) s))
  else some (Out.nx (ρ := Int) s)) fun s =>
  seqO ((((((((some s.v_cell).bind fun x125 => (some (7919 : Int)).bind fun x126 => iMul x125 x126).bind fun x129 => ((some s.v_k).bind fun x127 => (some (104729 : Int)).bind fun x128 => iMul x127 x128).bind fun x130 => some (x129 + x130)).bind fun x131 => some x131).bind fun x132 => (some (3 : Int)).bind fun x133 => iDiv x132 x133).bind fun x134 => some x134).bind fun x135 => (some s.v_many).bind fun x136 => iMod x135 x136).bind fun x137 => some (Out.rt x137)) fun s =>
  some (Out.nx (ρ := Int) s)
def F__law_mix (v_draws : (List Int)) (v_k : Int) (v_many : Int) : Option Int := outF none (fb__law_mix (⟨v_draws, v_k, v_many, 0⟩ : S__law_mix))
@[reducible] def sa__law_mix (a : (List Int) × Int × Int × Unit) : Sl := [some (Mo.b, enc a.1), some (Mo.a, enc a.2.1), some (Mo.a, enc a.2.2.1), none]
@[reducible] def in__law_mix (a : (List Int) × Int × Int × Unit) : S__law_mix := ⟨a.1, a.2.1, a.2.2.1, 0⟩
abbrev N__law_mix : List Str := ["draws", "k", "many", "cell"]
abbrev s__law_mix : Stmt := topS 52
theorem sc__law_mix : FnScope N__law_mix ["draws", "k", "many"] (defScope s__law_mix) := ⟨rfl, rfl, rfl, by decide +kernel, rfl, by decide +kernel, by decide +kernel⟩
theorem ok__law_mix (T : Top K mg) : FnOk P w K mg base CX0 1 T.a__law_mix T.d__law_mix ["draws", "k", "many"] (spF K N__law_mix 3 sa__law_mix .a (fun a => F__law_mix a.1 a.2.1 a.2.2.1)) := by
  have nd := sc__law_mix.nd
  refine fn_v (slE := sl__law_mix_1) (fb := fun a => fb__law_mix (in__law_mix a)) none T.F__law_mix sc__law_mix rfl (fun _ h => nomatch h) (.inl rfl) (fun _ => rfl) fun cdv A outer s H E hr => ?_
  exact (bv_wk (sl'' := sl__law_mix_1) (h := in__law_mix) (fun _ => Wk.refl _)
  (bv_cons (sl'' := sl__law_mix_0) (sv_set (i := 3) (fun (s : S__law_mix) t => { s with v_cell := t }) (fun _ _ => rfl) nd pv_int)
  (bv_cons (sl'' := sl__law_mix_0) (sv_if (pb_cmp c_gt (PV.ab (pv_len (by rfl) T.z_len (pv_varb (i := 0) (fun s : S__law_mix => s.v_draws) (fun _ => rfl)))) (PV.ab pv_int))
  (bv_cons (sl'' := sl__law_mix_0) (sv_set (i := 3) (fun (s : S__law_mix) t => { s with v_cell := t }) (fun _ _ => rfl) nd (pv_ix (pv_varb (i := 0) (fun s : S__law_mix => s.v_draws) (fun _ => rfl)) (PV.ab (pv_mod (PV.ab (pv_int1 (by rfl) T.z_int (PV.ab (pv_var (i := 1) (fun s : S__law_mix => s.v_k) (fun _ => rfl))))) (PV.ab (pv_len (by rfl) T.z_len (pv_varb (i := 0) (fun s : S__law_mix => s.v_draws) (fun _ => rfl))))))))
  (bv_nil (h := fun (s : S__law_mix) => (s : S__law_mix)) (fun _ => (.s (.s (.s (.s .nil)))))))
  (bv_nil (h := fun (s : S__law_mix) => (s : S__law_mix)) (fun _ => (.s (.s (.s (.s .nil)))))))
  (bv_cons (sl'' := sl__law_mix_0) (sv_if (pb_cmp c_lt (PV.ab (pv_var (i := 1) (fun s : S__law_mix => s.v_k) (fun _ => rfl))) (PV.ab (pv_len (by rfl) T.z_len (pv_varb (i := 0) (fun s : S__law_mix => s.v_draws) (fun _ => rfl)))))
  (bv_cons (sl'' := sl__law_mix_0) (sv_ret (pv_mod (PV.ab (pv_int1 (by rfl) T.z_int (PV.ab (pv_var (i := 3) (fun s : S__law_mix => s.v_cell) (fun _ => rfl))))) (PV.ab (pv_var (i := 2) (fun s : S__law_mix => s.v_many) (fun _ => rfl)))))
  (bv_nil (sl := sl__law_mix_0) (h := fun s => s) (fun _ => Wk.refl _)))
  (bv_nil (h := fun (s : S__law_mix) => (s : S__law_mix)) (fun _ => (.s (.s (.s (.s .nil)))))))
  (bv_cons (sl'' := sl__law_mix_1) (sv_ret (pv_mod (PV.ab (pv_int1 (by rfl) T.z_int (PV.ab (pv_div (PV.ab (pv_int1 (by rfl) T.z_int (PV.ab (pv_add (PV.ab (pv_mul (PV.ab (pv_var (i := 3) (fun s : S__law_mix => s.v_cell) (fun _ => rfl))) (PV.ab pv_int))) (PV.ab (pv_mul (PV.ab (pv_var (i := 1) (fun s : S__law_mix => s.v_k) (fun _ => rfl))) (PV.ab pv_int))))))) (PV.ab pv_int))))) (PV.ab (pv_var (i := 2) (fun s : S__law_mix => s.v_many) (fun _ => rfl)))))
  (bv_nil (sl := sl__law_mix_1) (h := fun s => s) (fun _ => Wk.refl _)))))))
/-! ## check_numbers -/
structure S_check_numbers where
  mk ::
  v_base : Int
  v_told : (List (T3 Int Int Int))
  v_number : Int
  v_least : Int
  v_most : Int
@[reducible] def sl_check_numbers_0 (s : S_check_numbers) : Sl := (fun s : S_check_numbers => ([some (Mo.a, enc s.v_base), some (Mo.b, enc s.v_told), some (Mo.a, enc s.v_number), some (Mo.a, enc s.v_least), some (Mo.a, enc s.v_most)] : Sl)) s
@[reducible] def sl_check_numbers_1 (s : S_check_numbers) : Sl := (fun s : S_check_numbers => ([some (Mo.a, enc s.v_base), some (Mo.b, enc s.v_told), some (Mo.a, enc s.v_number), none, none] : Sl)) s
@[reducible] def sl_check_numbers_2 (s : S_check_numbers) : Sl := (fun s : S_check_numbers => ([some (Mo.a, enc s.v_base), some (Mo.b, enc s.v_told), some (Mo.a, enc s.v_number), some (Mo.a, enc s.v_least), none] : Sl)) s
@[reducible] def sl_check_numbers_3 (s : S_check_numbers) : Sl := (fun s : S_check_numbers => ([some (Mo.a, enc s.v_base), some (Mo.b, enc s.v_told), none, none, none] : Sl)) s
def lp_check_numbers_0 (s : S_check_numbers) : Option (Out S_check_numbers Unit) :=
  seqO ((((some s.v_least).bind fun x38 => (some s.v_number).bind fun x39 => (some (decide (x38 ≤ x39))).bind fun x41 => if x41 = true then (some s.v_most).bind fun x40 => some (decide (x39 ≤ x40)) else some false).bind fun x42 => some (!x42)).bind fun x43 => if x43 = true then
  (seqO (none) fun s =>
  some (Out.nx (ρ := Unit) s))
  else some (Out.nx (ρ := Unit) s)) fun s =>
  some (Out.nx (ρ := Unit) { s with v_number := 0, v_least := 0, v_most := 0 })
def fb_check_numbers (s : S_check_numbers) : Option (Out S_check_numbers Unit) :=
  seqO ((((some s.v_base).bind fun x15 => (some ()).bind fun x16 => some (x15, x16)).bind fun x17 => F_check_base x17.1).bind fun _ => some (Out.nx (ρ := Unit) s)) fun s =>
  seqO ((some s.v_told).bind fun x44 => forO (fun (s : S_check_numbers) (t : (T3 Int Int Int)) => { ({ ({ s with v_number := t.a }) with v_least := t.b }) with v_most := t.c }) lp_check_numbers_0 x44 s) fun s =>
  some (Out.nx (ρ := Unit) s)
def F_check_numbers (v_base : Int) (v_told : (List (T3 Int Int Int))) : Option Unit := outF (some ()) (fb_check_numbers (⟨v_base, v_told, 0, 0, 0⟩ : S_check_numbers))
@[reducible] def sa_check_numbers (a : Int × (List (T3 Int Int Int)) × Unit) : Sl := [some (Mo.a, enc a.1), some (Mo.b, enc a.2.1), none, none, none]
@[reducible] def in_check_numbers (a : Int × (List (T3 Int Int Int)) × Unit) : S_check_numbers := ⟨a.1, a.2.1, 0, 0, 0⟩
abbrev N_check_numbers : List Str := ["base", "told", "number", "least", "most"]
abbrev s_check_numbers : Stmt := topS 22
theorem sc_check_numbers : FnScope N_check_numbers ["base", "told"] (defScope s_check_numbers) := ⟨rfl, rfl, rfl, by decide +kernel, rfl, by decide +kernel, by decide +kernel⟩
theorem ok_check_numbers (T : Top K mg) : FnOk P w K mg base CX0 2 T.a_check_numbers T.d_check_numbers ["base", "told"] (spF K N_check_numbers 2 sa_check_numbers .a (fun a => F_check_numbers a.1 a.2.1)) := by
  have nd := sc_check_numbers.nd
  refine fn_v (slE := sl_check_numbers_3) (fb := fun a => fb_check_numbers (in_check_numbers a)) (some ()) T.F_check_numbers sc_check_numbers rfl (fun _ h => by cases h; rfl) (.inl rfl) (fun _ => rfl) fun cdv A outer s H E hr => ?_
  exact (bv_wk (sl'' := sl_check_numbers_3) (h := in_check_numbers) (fun _ => Wk.refl _)
  (bv_cons (sl'' := sl_check_numbers_3) (sv_expr (pv_calla (ok_check_base T) (hr.mono (by decide)) (by rfl) T.m_check_base T.F_check_base.kp T.b_check_base (av_a (pv_var (i := 0) (fun s : S_check_numbers => s.v_base) (fun _ => rfl)) av_nil) (fun _ => ⟨0, rfl, rfl⟩)))
  (bv_cons (sl'' := sl_check_numbers_3) (sv_for (sl := sl_check_numbers_3) PassesOwn.never (piv_varb (i := 1) (fun s : S_check_numbers => s.v_told) (fun _ => rfl)) (gv_tup (fun t : (T3 Int Int Int) => [enc t.a, enc t.b, enc t.c]) (fun _ => rfl) (fun _ => rfl) (gvs_cons (p1 := fun t : (T3 Int Int Int) => t.a) (p2 := fun t : (T3 Int Int Int) => t) (gv_name (i := 2) (slb := sl_check_numbers_1) (set := fun (s : S_check_numbers) (t : Int) => { s with v_number := t }) (fun _ _ => rfl) nd) (gvs_cons (p1 := fun t : (T3 Int Int Int) => t.b) (p2 := fun t : (T3 Int Int Int) => t) (gv_name (i := 3) (slb := sl_check_numbers_2) (set := fun (s : S_check_numbers) (t : Int) => { s with v_least := t }) (fun _ _ => rfl) nd) (gvs_cons (p1 := fun t : (T3 Int Int Int) => t.c) (p2 := fun t : (T3 Int Int Int) => t) (gv_name (i := 4) (slb := sl_check_numbers_0) (set := fun (s : S_check_numbers) (t : Int) => { s with v_most := t }) (fun _ _ => rfl) nd) gvs_nil))))
  (bv_cons (sl'' := sl_check_numbers_0) (sv_if (pb_not (pb_chain c_le c_le (PV.ab (pv_var (i := 3) (fun s : S_check_numbers => s.v_least) (fun _ => rfl))) (PV.ab (pv_var (i := 2) (fun s : S_check_numbers => s.v_number) (fun _ => rfl))) (PV.ab (pv_var (i := 4) (fun s : S_check_numbers => s.v_most) (fun _ => rfl)))))
  (bv_cons (sl'' := sl_check_numbers_0) sv_never
  (bv_nil (sl := sl_check_numbers_0) (h := fun s => s) (fun _ => Wk.refl _)))
  (bv_nil (h := fun (s : S_check_numbers) => (s : S_check_numbers)) (fun _ => (.s (.s (.s (.s (.s .nil))))))))
  (bv_nil (h := fun (s : S_check_numbers) => ({ s with v_number := 0, v_least := 0, v_most := 0 } : S_check_numbers)) (fun _ => (.s (.s (.d (.d (.d .nil)))))))))
  (bv_nil (h := fun (s : S_check_numbers) => (s : S_check_numbers)) (fun _ => (.s (.s (.s (.s (.s .nil))))))))))
/-! ## power_of -/
structure S_power_of where
  mk ::
  v_base : Int
  v_many : Int
  v_found : Int
  v__ : Int
@[reducible] def sl_power_of_0 (s : S_power_of) : Sl := (fun s : S_power_of => ([some (Mo.a, enc s.v_base), some (Mo.a, enc s.v_many), some (Mo.a, enc s.v_found), some (Mo.a, enc s.v__)] : Sl)) s
@[reducible] def sl_power_of_1 (s : S_power_of) : Sl := (fun s : S_power_of => ([some (Mo.a, enc s.v_base), some (Mo.a, enc s.v_many), some (Mo.a, enc s.v_found), none] : Sl)) s
@[reducible] def sl_power_of_2 (s : S_power_of) : Sl := (fun s : S_power_of => ([some (Mo.a, enc s.v_base), some (Mo.a, enc s.v_many), none, none] : Sl)) s
def lp_power_of_0 (s : S_power_of) : Option (Out S_power_of Int) :=
  seqO (((some s.v_found).bind fun x26 => (some s.v_base).bind fun x27 => iMul x26 x27).bind fun x28 => some (Out.nx (ρ := Int) { s with v_found := x28 })) fun s =>
  some (Out.nx (ρ := Int) { s with v__ := 0 })
def fb_power_of (s : S_power_of) : Option (Out S_power_of Int) :=
  seqO ((some (1 : Int)).bind fun x9 => some (Out.nx (ρ := Int) { s with v_found := x9 })) fun s =>
  seqO (((some s.v_many).bind fun x19 => rng1 x19).bind fun x29 => forO (fun (s : S_power_of) (t : Int) => { s with v__ := t }) lp_power_of_0 x29 s) fun s =>
  seqO ((some s.v_found).bind fun x32 => some (Out.rt x32)) fun s =>
  some (Out.nx (ρ := Int) s)
def F_power_of (v_base : Int) (v_many : Int) : Option Int := outF none (fb_power_of (⟨v_base, v_many, 0, 0⟩ : S_power_of))
@[reducible] def sa_power_of (a : Int × Int × Unit) : Sl := [some (Mo.a, enc a.1), some (Mo.a, enc a.2.1), none, none]
@[reducible] def in_power_of (a : Int × Int × Unit) : S_power_of := ⟨a.1, a.2.1, 0, 0⟩
abbrev N_power_of : List Str := ["base", "many", "found", "_"]
abbrev s_power_of : Stmt := topS 23
theorem sc_power_of : FnScope N_power_of ["base", "many"] (defScope s_power_of) := ⟨rfl, rfl, rfl, by decide +kernel, rfl, by decide +kernel, by decide +kernel⟩
theorem ok_power_of (T : Top K mg) : FnOk P w K mg base CX0 1 T.a_power_of T.d_power_of ["base", "many"] (spF K N_power_of 2 sa_power_of .a (fun a => F_power_of a.1 a.2.1)) := by
  have nd := sc_power_of.nd
  refine fn_v (slE := sl_power_of_2) (fb := fun a => fb_power_of (in_power_of a)) none T.F_power_of sc_power_of rfl (fun _ h => nomatch h) (.inl rfl) (fun _ => rfl) fun cdv A outer s H E hr => ?_
  exact (bv_wk (sl'' := sl_power_of_2) (h := in_power_of) (fun _ => Wk.refl _)
  (bv_cons (sl'' := sl_power_of_1) (sv_set (i := 2) (fun (s : S_power_of) t => { s with v_found := t }) (fun _ _ => rfl) nd pv_int)
  (bv_cons (sl'' := sl_power_of_1) (sv_for (sl := sl_power_of_1) PassesOwn.never (piv_range1 (by rfl) T.z_range (PV.ab (pv_var (i := 1) (fun s : S_power_of => s.v_many) (fun _ => rfl)))) (gv_name (i := 3) (slb := sl_power_of_0) (set := (fun (s : S_power_of) (t : Int) => { s with v__ := t })) (fun _ _ => rfl) nd)
  (bv_cons (sl'' := sl_power_of_0) (sv_set (i := 2) (fun (s : S_power_of) t => { s with v_found := t }) (fun _ _ => rfl) nd (pv_mul (PV.ab (pv_var (i := 2) (fun s : S_power_of => s.v_found) (fun _ => rfl))) (PV.ab (pv_var (i := 0) (fun s : S_power_of => s.v_base) (fun _ => rfl)))))
  (bv_nil (h := fun (s : S_power_of) => ({ s with v__ := 0 } : S_power_of)) (fun _ => (.s (.s (.s (.d .nil))))))))
  (bv_cons (sl'' := sl_power_of_2) (sv_ret (pv_var (i := 2) (fun s : S_power_of => s.v_found) (fun _ => rfl)))
  (bv_nil (sl := sl_power_of_2) (h := fun s => s) (fun _ => Wk.refl _))))))
/-! ## comes_again -/
structure S_comes_again where
  mk ::
  v_number : Int
  v_many : Int
  v_base : Int
  v_by : Int
  v_met : (Dct Int Int)
  v_rest : Int
  v_place : Int
@[reducible] def sl_comes_again_0 (s : S_comes_again) : Sl := (fun s : S_comes_again => ([some (Mo.a, enc s.v_number), some (Mo.a, enc s.v_many), some (Mo.a, enc s.v_base), none, none, none, none] : Sl)) s
@[reducible] def sl_comes_again_1 (s : S_comes_again) : Sl := (fun s : S_comes_again => ([some (Mo.a, enc s.v_number), some (Mo.a, enc s.v_many), some (Mo.a, enc s.v_base), some (Mo.a, enc s.v_by), some (Mo.o, enc s.v_met), some (Mo.a, enc s.v_rest), some (Mo.a, enc s.v_place)] : Sl)) s
@[reducible] def sl_comes_again_2 (s : S_comes_again) : Sl := (fun s : S_comes_again => ([some (Mo.a, enc s.v_number), some (Mo.a, enc s.v_many), some (Mo.a, enc s.v_base), some (Mo.a, enc s.v_by), some (Mo.o, enc s.v_met), some (Mo.a, enc s.v_rest), none] : Sl)) s
@[reducible] def sl_comes_again_3 (s : S_comes_again) : Sl := (fun s : S_comes_again => ([some (Mo.a, enc s.v_number), some (Mo.a, enc s.v_many), some (Mo.a, enc s.v_base), some (Mo.a, enc s.v_by), some (Mo.o, enc s.v_met), none, none] : Sl)) s
@[reducible] def sl_comes_again_4 (s : S_comes_again) : Sl := (fun s : S_comes_again => ([some (Mo.a, enc s.v_number), some (Mo.a, enc s.v_many), some (Mo.a, enc s.v_base), some (Mo.a, enc s.v_by), none, none, none] : Sl)) s
def lp_comes_again_0 (s : S_comes_again) : Option (Out S_comes_again (T2 Int Int)) :=
  seqO ((some s.v_place).bind fun x194 => (some s.v_rest).bind fun x195 => (kPut s.v_met x195 x194).bind fun x196 => some (Out.nx (ρ := (T2 Int Int)) { s with v_met := x196 })) fun s =>
  seqO ((((some s.v_rest).bind fun x207 => (some s.v_number).bind fun x208 => iMul x207 x208).bind fun x209 => (some s.v_by).bind fun x210 => iMod x209 x210).bind fun x211 => some (Out.nx (ρ := (T2 Int Int)) { s with v_rest := x211 })) fun s =>
  seqO (((some s.v_place).bind fun x218 => (some (1 : Int)).bind fun x219 => some (x218 + x219)).bind fun x220 => some (Out.nx (ρ := (T2 Int Int)) { s with v_place := x220 })) fun s =>
  some (Out.nx (ρ := (T2 Int Int)) s)
def lc_comes_again_1 (s : S_comes_again) : Option Bool :=
  (some s.v_rest).bind fun x186 => (some s.v_met).bind fun x187 => kNin x186 x187
def fb_comes_again (s : S_comes_again) : Option (Out S_comes_again (T2 Int Int)) :=
  seqO ((((some s.v_base).bind fun x115 => ((((some s.v_number).bind fun x110 => (some (0 : Int)).bind fun x111 => (some (1000000 : Int)).bind fun x112 => some (T3.mk x110 x111 x112)).bind fun x113 => (((some s.v_many).bind fun x105 => (some (1 : Int)).bind fun x106 => (some (3 : Int)).bind fun x107 => some (T3.mk x105 x106 x107)).bind fun x108 => (some ([] : List (T3 Int Int Int))).bind fun x109 => some (x108 :: x109)).bind fun x114 => some (x113 :: x114)).bind fun x116 => (some ()).bind fun x117 => some (x116, x117)).bind fun x118 => some (x115, x118)).bind fun x119 => F_check_numbers x119.1 x119.2.1).bind fun _ => some (Out.nx (ρ := (T2 Int Int)) s)) fun s =>
  seqO (((some s.v_base).bind fun x124 => (some (12 : Int)).bind fun x125 => some (decide (x124 > x125))).bind fun x126 => if x126 = true then
  (seqO (none) fun s =>
  some (Out.nx (ρ := (T2 Int Int)) s))
  else some (Out.nx (ρ := (T2 Int Int)) s)) fun s =>
  seqO ((((some s.v_base).bind fun x139 => ((some s.v_many).bind fun x140 => (some ()).bind fun x141 => some (x140, x141)).bind fun x142 => some (x139, x142)).bind fun x143 => F_power_of x143.1 x143.2.1).bind fun x144 => some (Out.nx (ρ := (T2 Int Int)) { s with v_by := x144 })) fun s =>
  seqO ((some (⟨[]⟩ : (Dct Int Int))).bind fun x147 => some (Out.nx (ρ := (T2 Int Int)) { s with v_met := x147 })) fun s =>
  seqO (((some (1 : Int)).bind fun x154 => (some s.v_by).bind fun x155 => iMod x154 x155).bind fun x156 => some (Out.nx (ρ := (T2 Int Int)) { s with v_rest := x156 })) fun s =>
  seqO ((some (0 : Int)).bind fun x159 => some (Out.nx (ρ := (T2 Int Int)) { s with v_place := x159 })) fun s =>
  seqO (whileO lc_comes_again_1 lp_comes_again_0 FUEL s) fun s =>
  seqO ((((some s.v_met).bind fun x239 => (some s.v_rest).bind fun x240 => kGet x239 x240).bind fun x245 => ((some s.v_place).bind fun x243 => ((some s.v_met).bind fun x241 => (some s.v_rest).bind fun x242 => kGet x241 x242).bind fun x244 => some (x243 - x244)).bind fun x246 => some (T2.mk x245 x246)).bind fun x247 => some (Out.rt x247)) fun s =>
  some (Out.nx (ρ := (T2 Int Int)) s)
def F_comes_again (v_number : Int) (v_many : Int) (v_base : Int) : Option (T2 Int Int) := outF none (fb_comes_again (⟨v_number, v_many, v_base, 0, ⟨[]⟩, 0, 0⟩ : S_comes_again))
@[reducible] def sa_comes_again (a : Int × Int × Int × Unit) : Sl := [some (Mo.a, enc a.1), some (Mo.a, enc a.2.1), some (Mo.a, enc a.2.2.1), none, none, none, none]
@[reducible] def in_comes_again (a : Int × Int × Int × Unit) : S_comes_again := ⟨a.1, a.2.1, a.2.2.1, 0, ⟨[]⟩, 0, 0⟩
abbrev N_comes_again : List Str := ["number", "many", "base", "by", "met", "rest", "place"]
abbrev s_comes_again : Stmt := topS 26
theorem sc_comes_again : FnScope N_comes_again ["number", "many", "base"] (defScope s_comes_again) := ⟨rfl, rfl, rfl, by decide +kernel, rfl, by decide +kernel, by decide +kernel⟩
theorem ok_comes_again (T : Top K mg) : FnOk P w K mg base CX0 3 T.a_comes_again T.d_comes_again ["number", "many", "base"] (spF K N_comes_again 3 sa_comes_again .a (fun a => F_comes_again a.1 a.2.1 a.2.2.1)) := by
  have nd := sc_comes_again.nd
  refine fn_v (slE := sl_comes_again_0) (fb := fun a => fb_comes_again (in_comes_again a)) none T.F_comes_again sc_comes_again rfl (fun _ h => nomatch h) (.inl rfl) (fun _ => rfl) fun cdv A outer s H E hr => ?_
  exact (bv_wk (sl'' := sl_comes_again_0) (h := in_comes_again) (fun _ => Wk.refl _)
  (bv_cons (sl'' := sl_comes_again_0) (sv_expr (pv_calla (ok_check_numbers T) (hr.mono (by decide)) (by rfl) T.m_check_numbers T.F_check_numbers.kp T.b_check_numbers (av_a (pv_var (i := 2) (fun s : S_comes_again => s.v_base) (fun _ => rfl)) (av_b (PV.fb (pv_lst (pal_cons (pv_tup3 (pv_var (i := 0) (fun s : S_comes_again => s.v_number) (fun _ => rfl)) pv_int (pv_gint (i := 1000000) (by rfl) T.c_MOST_NUMBER.choose_spec ⟨_, rfl⟩)) (pal_cons (pv_tup3 (pv_var (i := 1) (fun s : S_comes_again => s.v_many) (fun _ => rfl)) pv_int (pv_gint (i := 3) (by rfl) T.c_MOST_AGAIN.choose_spec ⟨_, rfl⟩)) (pal_nil (τ := (T3 Int Int Int))))))) av_nil)) (fun _ => ⟨3, rfl, rfl⟩)))
  (bv_cons (sl'' := sl_comes_again_0) (sv_if (pb_cmp c_gt (PV.ab (pv_var (i := 2) (fun s : S_comes_again => s.v_base) (fun _ => rfl))) (PV.ab (pv_gint (i := 12) (by rfl) T.c_GREATEST_BASE.choose_spec ⟨_, rfl⟩)))
  (bv_cons (sl'' := sl_comes_again_0) sv_never
  (bv_nil (sl := sl_comes_again_0) (h := fun s => s) (fun _ => Wk.refl _)))
  (bv_nil (h := fun (s : S_comes_again) => (s : S_comes_again)) (fun _ => (.s (.s (.s (.s (.s (.s (.s .nil))))))))))
  (bv_cons (sl'' := sl_comes_again_4) (sv_set (i := 3) (fun (s : S_comes_again) t => { s with v_by := t }) (fun _ _ => rfl) nd (pv_calla (ok_power_of T) (hr.mono (by decide)) (by rfl) T.m_power_of T.F_power_of.kp T.b_power_of (av_a (pv_var (i := 2) (fun s : S_comes_again => s.v_base) (fun _ => rfl)) (av_a (pv_var (i := 1) (fun s : S_comes_again => s.v_many) (fun _ => rfl)) av_nil)) (fun _ => ⟨2, rfl, rfl⟩)))
  (bv_cons (sl'' := sl_comes_again_3) (sv_own (i := 4) (fun (s : S_comes_again) t => { s with v_met := t }) (fun _ _ => rfl) nd (pv_dict (κ := Int) (τ := Int)))
  (bv_cons (sl'' := sl_comes_again_2) (sv_set (i := 5) (fun (s : S_comes_again) t => { s with v_rest := t }) (fun _ _ => rfl) nd (pv_mod (PV.ab pv_int) (PV.ab (pv_var (i := 3) (fun s : S_comes_again => s.v_by) (fun _ => rfl)))))
  (bv_cons (sl'' := sl_comes_again_1) (sv_set (i := 6) (fun (s : S_comes_again) t => { s with v_place := t }) (fun _ _ => rfl) nd pv_int)
  (bv_cons (sl'' := sl_comes_again_1) (sv_while (sl := sl_comes_again_1) FUEL PassesOwn.never (pb_ninD (hu64 hr) (PV.ab (pv_var (i := 5) (fun s : S_comes_again => s.v_rest) (fun _ => rfl))) (pv_varo (i := 4) (fun s : S_comes_again => s.v_met) (fun _ => rfl)))
  (bv_cons (sl'' := sl_comes_again_1) (sv_dput (j := 4) (fun s : S_comes_again => s.v_met) (fun s t => { s with v_met := t }) (hu64 hr) (fun _ => rfl) (fun _ _ => rfl) (pv_var (i := 6) (fun s : S_comes_again => s.v_place) (fun _ => rfl)) (PV.ab (pv_var (i := 5) (fun s : S_comes_again => s.v_rest) (fun _ => rfl))))
  (bv_cons (sl'' := sl_comes_again_1) (sv_set (i := 5) (fun (s : S_comes_again) t => { s with v_rest := t }) (fun _ _ => rfl) nd (pv_mod (PV.ab (pv_mul (PV.ab (pv_var (i := 5) (fun s : S_comes_again => s.v_rest) (fun _ => rfl))) (PV.ab (pv_var (i := 0) (fun s : S_comes_again => s.v_number) (fun _ => rfl))))) (PV.ab (pv_var (i := 3) (fun s : S_comes_again => s.v_by) (fun _ => rfl)))))
  (bv_cons (sl'' := sl_comes_again_1) (sv_set (i := 6) (fun (s : S_comes_again) t => { s with v_place := t }) (fun _ _ => rfl) nd (pv_add (PV.ab (pv_var (i := 6) (fun s : S_comes_again => s.v_place) (fun _ => rfl))) (PV.ab pv_int)))
  (bv_nil (h := fun (s : S_comes_again) => (s : S_comes_again)) (fun _ => (.s (.s (.s (.s (.s (.s (.s .nil)))))))))))))
  (bv_cons (sl'' := sl_comes_again_0) (sv_ret (pv_tup2 (pv_dget (hu64 hr) (pv_varo (i := 4) (fun s : S_comes_again => s.v_met) (fun _ => rfl)) (PV.ab (pv_var (i := 5) (fun s : S_comes_again => s.v_rest) (fun _ => rfl)))) (pv_sub (PV.ab (pv_var (i := 6) (fun s : S_comes_again => s.v_place) (fun _ => rfl))) (PV.ab (pv_dget (hu64 hr) (pv_varo (i := 4) (fun s : S_comes_again => s.v_met) (fun _ => rfl)) (PV.ab (pv_var (i := 5) (fun s : S_comes_again => s.v_rest) (fun _ => rfl))))))))
  (bv_nil (sl := sl_comes_again_0) (h := fun s => s) (fun _ => Wk.refl _)))))))))))
/-! ## check_some -/
structure S_check_some where
  mk ::
  v_part : (T2 Int Int)
@[reducible] def sl_check_some_0 (s : S_check_some) : Sl := (fun s : S_check_some => ([some (Mo.a, enc s.v_part)] : Sl)) s
def fb_check_some (s : S_check_some) : Option (Out S_check_some Unit) :=
  seqO ((((some s.v_part).bind fun x13 => (some ()).bind fun x14 => some (x13, x14)).bind fun x15 => F_check_part x15.1).bind fun _ => some (Out.nx (ρ := Unit) s)) fun s =>
  seqO ((((some s.v_part).bind fun x22 => some x22.a).bind fun x23 => (some (0 : Int)).bind fun x24 => some (decide (x23 = x24))).bind fun x25 => if x25 = true then
  (seqO (none) fun s =>
  some (Out.nx (ρ := Unit) s))
  else some (Out.nx (ρ := Unit) s)) fun s =>
  some (Out.nx (ρ := Unit) s)
def F_check_some (v_part : (T2 Int Int)) : Option Unit := outF (some ()) (fb_check_some (⟨v_part⟩ : S_check_some))
@[reducible] def sa_check_some (a : (T2 Int Int) × Unit) : Sl := [some (Mo.a, enc a.1)]
@[reducible] def in_check_some (a : (T2 Int Int) × Unit) : S_check_some := ⟨a.1⟩
abbrev N_check_some : List Str := ["part"]
abbrev s_check_some : Stmt := topS 46
theorem sc_check_some : FnScope N_check_some ["part"] (defScope s_check_some) := ⟨rfl, rfl, rfl, by decide +kernel, rfl, by decide +kernel, by decide +kernel⟩
theorem ok_check_some (T : Top K mg) : FnOk P w K mg base CX0 3 T.a_check_some T.d_check_some ["part"] (spF K N_check_some 1 sa_check_some .a (fun a => F_check_some a.1)) := by
  have nd := sc_check_some.nd
  refine fn_v (slE := sl_check_some_0) (fb := fun a => fb_check_some (in_check_some a)) (some ()) T.F_check_some sc_check_some rfl (fun _ h => by cases h; rfl) (.inl rfl) (fun _ => rfl) fun cdv A outer s H E hr => ?_
  exact (bv_wk (sl'' := sl_check_some_0) (h := in_check_some) (fun _ => Wk.refl _)
  (bv_cons (sl'' := sl_check_some_0) (sv_expr (pv_calla (ok_check_part T) (hr.mono (by decide)) (by rfl) T.m_check_part T.F_check_part.kp T.b_check_part (av_a (pv_var (i := 0) (fun s : S_check_some => s.v_part) (fun _ => rfl)) av_nil) (fun _ => ⟨0, rfl, rfl⟩)))
  (bv_cons (sl'' := sl_check_some_0) (sv_if (pb_cmp c_eqS (PV.ab (pv_ixT (fun t : (T2 Int Int) => [enc t.a, enc t.b]) (fun t => t.a) (fun _ => rfl) (fun _ => rfl) (PV.ab (pv_var (i := 0) (fun s : S_check_some => s.v_part) (fun _ => rfl))))) (PV.ab pv_int))
  (bv_cons (sl'' := sl_check_some_0) sv_never
  (bv_nil (sl := sl_check_some_0) (h := fun s => s) (fun _ => Wk.refl _)))
  (bv_nil (h := fun (s : S_check_some) => (s : S_check_some)) (fun _ => (.s .nil))))
  (bv_nil (h := fun (s : S_check_some) => (s : S_check_some)) (fun _ => (.s .nil))))))
/-! ## least_unit -/
structure S_least_unit where
  mk ::
  v_part : (T2 Int Int)
@[reducible] def sl_least_unit_0 (s : S_least_unit) : Sl := (fun s : S_least_unit => ([some (Mo.a, enc s.v_part)] : Sl)) s
def fb_least_unit (s : S_least_unit) : Option (Out S_least_unit Int) :=
  seqO ((((((some s.v_part).bind fun x22 => some x22.b).bind fun x23 => some (-x23)).bind fun x25 => ((some s.v_part).bind fun x24 => some x24.a).bind fun x26 => iDiv x25 x26).bind fun x27 => some (-x27)).bind fun x28 => some (Out.rt x28)) fun s =>
  some (Out.nx (ρ := Int) s)
def F_least_unit (v_part : (T2 Int Int)) : Option Int := outF none (fb_least_unit (⟨v_part⟩ : S_least_unit))
@[reducible] def sa_least_unit (a : (T2 Int Int) × Unit) : Sl := [some (Mo.a, enc a.1)]
@[reducible] def in_least_unit (a : (T2 Int Int) × Unit) : S_least_unit := ⟨a.1⟩
abbrev N_least_unit : List Str := ["part"]
abbrev s_least_unit : Stmt := topS 47
theorem sc_least_unit : FnScope N_least_unit ["part"] (defScope s_least_unit) := ⟨rfl, rfl, rfl, by decide +kernel, rfl, by decide +kernel, by decide +kernel⟩
theorem ok_least_unit (T : Top K mg) : FnOk P w K mg base CX0 1 T.a_least_unit T.d_least_unit ["part"] (spF K N_least_unit 1 sa_least_unit .a (fun a => F_least_unit a.1)) := by
  have nd := sc_least_unit.nd
  refine fn_v (slE := sl_least_unit_0) (fb := fun a => fb_least_unit (in_least_unit a)) none T.F_least_unit sc_least_unit rfl (fun _ h => nomatch h) (.inl rfl) (fun _ => rfl) fun cdv A outer s H E hr => ?_
  exact (bv_wk (sl'' := sl_least_unit_0) (h := in_least_unit) (fun _ => Wk.refl _)
  (bv_cons (sl'' := sl_least_unit_0) (sv_ret (pv_neg (PV.ab (pv_div (PV.ab (pv_neg (PV.ab (pv_ixT (fun t : (T2 Int Int) => [enc t.a, enc t.b]) (fun t => t.b) (fun _ => rfl) (fun _ => rfl) (PV.ab (pv_var (i := 0) (fun s : S_least_unit => s.v_part) (fun _ => rfl))))))) (PV.ab (pv_ixT (fun t : (T2 Int Int) => [enc t.a, enc t.b]) (fun t => t.a) (fun _ => rfl) (fun _ => rfl) (PV.ab (pv_var (i := 0) (fun s : S_least_unit => s.v_part) (fun _ => rfl)))))))))
  (bv_nil (sl := sl_least_unit_0) (h := fun s => s) (fun _ => Wk.refl _))))
/-! ## fraction -/
structure S_fraction where
  mk ::
  v_number : Int
  v_by : Int
  v_common : Int
@[reducible] def sl_fraction_0 (s : S_fraction) : Sl := (fun s : S_fraction => ([some (Mo.a, enc s.v_number), some (Mo.a, enc s.v_by), none] : Sl)) s
@[reducible] def sl_fraction_1 (s : S_fraction) : Sl := (fun s : S_fraction => ([some (Mo.a, enc s.v_number), some (Mo.a, enc s.v_by), some (Mo.a, enc s.v_common)] : Sl)) s
def fb_fraction (s : S_fraction) : Option (Out S_fraction (T2 Int Int)) :=
  seqO (((some s.v_by).bind fun x25 => (some (0 : Int)).bind fun x26 => some (decide (x25 < x26))).bind fun x39 => if x39 = true then
  (seqO (((some s.v_number).bind fun x35 => some (-x35)).bind fun x37 => ((some s.v_by).bind fun x36 => some (-x36)).bind fun x38 => some (Out.nx (ρ := (T2 Int Int)) { s with v_number := x37, v_by := x38 })) fun s =>
  some (Out.nx (ρ := (T2 Int Int)) s))
  else some (Out.nx (ρ := (T2 Int Int)) s)) fun s =>
  seqO (((some s.v_number).bind fun x46 => (some s.v_by).bind fun x47 => some ((Nat.gcd x46.natAbs x47.natAbs : Nat) : Int)).bind fun x48 => some (Out.nx (ρ := (T2 Int Int)) { s with v_common := x48 })) fun s =>
  seqO ((((some s.v_number).bind fun x63 => (some s.v_common).bind fun x64 => iDiv x63 x64).bind fun x67 => ((some s.v_by).bind fun x65 => (some s.v_common).bind fun x66 => iDiv x65 x66).bind fun x68 => some (T2.mk x67 x68)).bind fun x69 => some (Out.rt x69)) fun s =>
  some (Out.nx (ρ := (T2 Int Int)) s)
def F_fraction (v_number : Int) (v_by : Int) : Option (T2 Int Int) := outF none (fb_fraction (⟨v_number, v_by, 0⟩ : S_fraction))
@[reducible] def sa_fraction (a : Int × Int × Unit) : Sl := [some (Mo.a, enc a.1), some (Mo.a, enc a.2.1), none]
@[reducible] def in_fraction (a : Int × Int × Unit) : S_fraction := ⟨a.1, a.2.1, 0⟩
abbrev N_fraction : List Str := ["number", "by", "common"]
abbrev s_fraction : Stmt := topS 32
theorem sc_fraction : FnScope N_fraction ["number", "by"] (defScope s_fraction) := ⟨rfl, rfl, rfl, by decide +kernel, rfl, by decide +kernel, by decide +kernel⟩
theorem ok_fraction (T : Top K mg) : FnOk P w K mg base CX0 1 T.a_fraction T.d_fraction ["number", "by"] (spF K N_fraction 2 sa_fraction .a (fun a => F_fraction a.1 a.2.1)) := by
  have nd := sc_fraction.nd
  refine fn_v (slE := sl_fraction_0) (fb := fun a => fb_fraction (in_fraction a)) none T.F_fraction sc_fraction rfl (fun _ h => nomatch h) (.inl rfl) (fun _ => rfl) fun cdv A outer s H E hr => ?_
  exact (bv_wk (sl'' := sl_fraction_0) (h := in_fraction) (fun _ => Wk.refl _)
  (bv_cons (sl'' := sl_fraction_0) (sv_if (pb_cmp c_lt (PV.ab (pv_var (i := 1) (fun s : S_fraction => s.v_by) (fun _ => rfl))) (PV.ab pv_int))
  (bv_cons (sl'' := sl_fraction_0) (sv_par (i := 0) (j := 1) (fun (s : S_fraction) x37 x38 => { s with v_number := x37, v_by := x38 }) (fun _ _ _ => rfl) nd (pv_neg (PV.ab (pv_var (i := 0) (fun s : S_fraction => s.v_number) (fun _ => rfl)))) (pv_neg (PV.ab (pv_var (i := 1) (fun s : S_fraction => s.v_by) (fun _ => rfl)))))
  (bv_nil (h := fun (s : S_fraction) => (s : S_fraction)) (fun _ => (.s (.s (.s .nil))))))
  (bv_nil (h := fun (s : S_fraction) => (s : S_fraction)) (fun _ => (.s (.s (.s .nil))))))
  (bv_cons (sl'' := sl_fraction_1) (sv_set (i := 2) (fun (s : S_fraction) t => { s with v_common := t }) (fun _ _ => rfl) nd (pv_gcd' (by rfl) T.b_gcd (PV.ab (pv_var (i := 0) (fun s : S_fraction => s.v_number) (fun _ => rfl))) (PV.ab (pv_var (i := 1) (fun s : S_fraction => s.v_by) (fun _ => rfl)))))
  (bv_cons (sl'' := sl_fraction_0) (sv_ret (pv_tup2 (pv_div (PV.ab (pv_var (i := 0) (fun s : S_fraction => s.v_number) (fun _ => rfl))) (PV.ab (pv_var (i := 2) (fun s : S_fraction => s.v_common) (fun _ => rfl)))) (pv_div (PV.ab (pv_var (i := 1) (fun s : S_fraction => s.v_by) (fun _ => rfl))) (PV.ab (pv_var (i := 2) (fun s : S_fraction => s.v_common) (fun _ => rfl))))))
  (bv_nil (sl := sl_fraction_0) (h := fun s => s) (fun _ => Wk.refl _))))))
/-! ## minus -/
structure S_minus where
  mk ::
  v_one : (T2 Int Int)
  v_two : (T2 Int Int)
@[reducible] def sl_minus_0 (s : S_minus) : Sl := (fun s : S_minus => ([some (Mo.a, enc s.v_one), some (Mo.a, enc s.v_two)] : Sl)) s
def fb_minus (s : S_minus) : Option (Out S_minus (T2 Int Int)) :=
  seqO (((((((some s.v_one).bind fun x61 => some x61.a).bind fun x63 => ((some s.v_two).bind fun x62 => some x62.b).bind fun x64 => iMul x63 x64).bind fun x69 => (((some s.v_two).bind fun x65 => some x65.a).bind fun x67 => ((some s.v_one).bind fun x66 => some x66.b).bind fun x68 => iMul x67 x68).bind fun x70 => some (x69 - x70)).bind fun x75 => ((((some s.v_one).bind fun x71 => some x71.b).bind fun x73 => ((some s.v_two).bind fun x72 => some x72.b).bind fun x74 => iMul x73 x74).bind fun x76 => (some ()).bind fun x77 => some (x76, x77)).bind fun x78 => some (x75, x78)).bind fun x79 => F_fraction x79.1 x79.2.1).bind fun x80 => some (Out.rt x80)) fun s =>
  some (Out.nx (ρ := (T2 Int Int)) s)
def F_minus (v_one : (T2 Int Int)) (v_two : (T2 Int Int)) : Option (T2 Int Int) := outF none (fb_minus (⟨v_one, v_two⟩ : S_minus))
@[reducible] def sa_minus (a : (T2 Int Int) × (T2 Int Int) × Unit) : Sl := [some (Mo.a, enc a.1), some (Mo.a, enc a.2.1)]
@[reducible] def in_minus (a : (T2 Int Int) × (T2 Int Int) × Unit) : S_minus := ⟨a.1, a.2.1⟩
abbrev N_minus : List Str := ["one", "two"]
abbrev s_minus : Stmt := topS 34
theorem sc_minus : FnScope N_minus ["one", "two"] (defScope s_minus) := ⟨rfl, rfl, rfl, by decide +kernel, rfl, by decide +kernel, by decide +kernel⟩
theorem ok_minus (T : Top K mg) : FnOk P w K mg base CX0 2 T.a_minus T.d_minus ["one", "two"] (spF K N_minus 2 sa_minus .a (fun a => F_minus a.1 a.2.1)) := by
  have nd := sc_minus.nd
  refine fn_v (slE := sl_minus_0) (fb := fun a => fb_minus (in_minus a)) none T.F_minus sc_minus rfl (fun _ h => nomatch h) (.inl rfl) (fun _ => rfl) fun cdv A outer s H E hr => ?_
  exact (bv_wk (sl'' := sl_minus_0) (h := in_minus) (fun _ => Wk.refl _)
  (bv_cons (sl'' := sl_minus_0) (sv_ret (pv_calla (ok_fraction T) (hr.mono (by decide)) (by rfl) T.m_fraction T.F_fraction.kp T.b_fraction (av_a (pv_sub (PV.ab (pv_mul (PV.ab (pv_ixT (fun t : (T2 Int Int) => [enc t.a, enc t.b]) (fun t => t.a) (fun _ => rfl) (fun _ => rfl) (PV.ab (pv_var (i := 0) (fun s : S_minus => s.v_one) (fun _ => rfl))))) (PV.ab (pv_ixT (fun t : (T2 Int Int) => [enc t.a, enc t.b]) (fun t => t.b) (fun _ => rfl) (fun _ => rfl) (PV.ab (pv_var (i := 1) (fun s : S_minus => s.v_two) (fun _ => rfl))))))) (PV.ab (pv_mul (PV.ab (pv_ixT (fun t : (T2 Int Int) => [enc t.a, enc t.b]) (fun t => t.a) (fun _ => rfl) (fun _ => rfl) (PV.ab (pv_var (i := 1) (fun s : S_minus => s.v_two) (fun _ => rfl))))) (PV.ab (pv_ixT (fun t : (T2 Int Int) => [enc t.a, enc t.b]) (fun t => t.b) (fun _ => rfl) (fun _ => rfl) (PV.ab (pv_var (i := 0) (fun s : S_minus => s.v_one) (fun _ => rfl)))))))) (av_a (pv_mul (PV.ab (pv_ixT (fun t : (T2 Int Int) => [enc t.a, enc t.b]) (fun t => t.b) (fun _ => rfl) (fun _ => rfl) (PV.ab (pv_var (i := 0) (fun s : S_minus => s.v_one) (fun _ => rfl))))) (PV.ab (pv_ixT (fun t : (T2 Int Int) => [enc t.a, enc t.b]) (fun t => t.b) (fun _ => rfl) (fun _ => rfl) (PV.ab (pv_var (i := 1) (fun s : S_minus => s.v_two) (fun _ => rfl)))))) av_nil)) (fun _ => ⟨1, rfl, rfl⟩)))
  (bv_nil (sl := sl_minus_0) (h := fun s => s) (fun _ => Wk.refl _))))
/-! ## greedy -/
structure S_greedy where
  mk ::
  v_part : (T2 Int Int)
  v_found : (List Int)
  v_left : (T2 Int Int)
  v_number : Int
@[reducible] def sl_greedy_0 (s : S_greedy) : Sl := (fun s : S_greedy => ([some (Mo.a, enc s.v_part), some (Mo.o, enc s.v_found), some (Mo.a, enc s.v_left), some (Mo.a, enc s.v_number)] : Sl)) s
@[reducible] def sl_greedy_1 (s : S_greedy) : Sl := (fun s : S_greedy => ([some (Mo.a, enc s.v_part), some (Mo.o, enc s.v_found), some (Mo.a, enc s.v_left), none] : Sl)) s
@[reducible] def sl_greedy_2 (s : S_greedy) : Sl := (fun s : S_greedy => ([some (Mo.a, enc s.v_part), none, none, none] : Sl)) s
@[reducible] def sl_greedy_3 (s : S_greedy) : Sl := (fun s : S_greedy => ([some (Mo.a, enc s.v_part), some (Mo.o, enc s.v_found), none, none] : Sl)) s
def lp_greedy_0 (s : S_greedy) : Option (Out S_greedy (List Int)) :=
  seqO ((((some s.v_left).bind fun x83 => (some ()).bind fun x84 => some (x83, x84)).bind fun x85 => F_least_unit x85.1).bind fun x86 => some (Out.nx (ρ := (List Int)) { s with v_number := x86 })) fun s =>
  seqO ((some s.v_number).bind fun x91 => (push s.v_found x91).bind fun x92 => some (Out.nx (ρ := (List Int)) { s with v_found := x92 })) fun s =>
  seqO ((((some s.v_left).bind fun x111 => (((some (1 : Int)).bind fun x109 => (some s.v_number).bind fun x110 => some (T2.mk x109 x110)).bind fun x112 => (some ()).bind fun x113 => some (x112, x113)).bind fun x114 => some (x111, x114)).bind fun x115 => F_minus x115.1 x115.2.1).bind fun x116 => some (Out.nx (ρ := (List Int)) { s with v_left := x116 })) fun s =>
  some (Out.nx (ρ := (List Int)) { s with v_number := 0 })
def lc_greedy_1 (s : S_greedy) : Option Bool :=
  ((some s.v_left).bind fun x72 => some x72.a).bind fun x73 => (some (0 : Int)).bind fun x74 => some (decide (x73 > x74))
def fb_greedy (s : S_greedy) : Option (Out S_greedy (List Int)) :=
  seqO ((((some s.v_part).bind fun x29 => (some ()).bind fun x30 => some (x29, x30)).bind fun x31 => F_check_some x31.1).bind fun _ => some (Out.nx (ρ := (List Int)) s)) fun s =>
  seqO ((some ([] : List Int)).bind fun x34 => some (Out.nx (ρ := (List Int)) { s with v_found := x34 })) fun s =>
  seqO ((some s.v_part).bind fun x37 => some (Out.nx (ρ := (List Int)) { s with v_left := x37 })) fun s =>
  seqO (whileO lc_greedy_1 lp_greedy_0 FUEL s) fun s =>
  seqO (some (Out.rt s.v_found)) fun s =>
  some (Out.nx (ρ := (List Int)) s)
def F_greedy (v_part : (T2 Int Int)) : Option (List Int) := outF none (fb_greedy (⟨v_part, [], ⟨0, 0⟩, 0⟩ : S_greedy))
@[reducible] def sa_greedy (a : (T2 Int Int) × Unit) : Sl := [some (Mo.a, enc a.1), none, none, none]
@[reducible] def in_greedy (a : (T2 Int Int) × Unit) : S_greedy := ⟨a.1, [], ⟨0, 0⟩, 0⟩
abbrev N_greedy : List Str := ["part", "found", "left", "number"]
abbrev s_greedy : Stmt := topS 48
theorem sc_greedy : FnScope N_greedy ["part"] (defScope s_greedy) := ⟨rfl, rfl, rfl, by decide +kernel, rfl, by decide +kernel, by decide +kernel⟩
theorem ok_greedy (T : Top K mg) : FnOk P w K mg base CX0 4 T.a_greedy T.d_greedy ["part"] (spF K N_greedy 1 sa_greedy .f (fun a => F_greedy a.1)) := by
  have nd := sc_greedy.nd
  refine fn_v (slE := sl_greedy_2) (fb := fun a => fb_greedy (in_greedy a)) none T.F_greedy sc_greedy rfl (fun _ h => nomatch h) (.inr ⟨rfl, rfl⟩) (fun _ => rfl) fun cdv A outer s H E hr => ?_
  exact (bv_wk (sl'' := sl_greedy_2) (h := in_greedy) (fun _ => Wk.refl _)
  (bv_cons (sl'' := sl_greedy_2) (sv_expr (pv_calla (ok_check_some T) (hr.mono (by decide)) (by rfl) T.m_check_some T.F_check_some.kp T.b_check_some (av_a (pv_var (i := 0) (fun s : S_greedy => s.v_part) (fun _ => rfl)) av_nil) (fun _ => ⟨0, rfl, rfl⟩)))
  (bv_cons (sl'' := sl_greedy_3) (sv_own (i := 1) (fun (s : S_greedy) t => { s with v_found := t }) (fun _ _ => rfl) nd (pv_lst (pal_nil (τ := Int))))
  (bv_cons (sl'' := sl_greedy_1) (sv_set (i := 2) (fun (s : S_greedy) t => { s with v_left := t }) (fun _ _ => rfl) nd (pv_var (i := 0) (fun s : S_greedy => s.v_part) (fun _ => rfl)))
  (bv_cons (sl'' := sl_greedy_1) (sv_while (sl := sl_greedy_1) FUEL PassesOwn.never (pb_cmp c_gt (PV.ab (pv_ixT (fun t : (T2 Int Int) => [enc t.a, enc t.b]) (fun t => t.a) (fun _ => rfl) (fun _ => rfl) (PV.ab (pv_var (i := 2) (fun s : S_greedy => s.v_left) (fun _ => rfl))))) (PV.ab pv_int))
  (bv_cons (sl'' := sl_greedy_0) (sv_set (i := 3) (fun (s : S_greedy) t => { s with v_number := t }) (fun _ _ => rfl) nd (pv_calla (ok_least_unit T) (hr.mono (by decide)) (by rfl) T.m_least_unit T.F_least_unit.kp T.b_least_unit (av_a (pv_var (i := 2) (fun s : S_greedy => s.v_left) (fun _ => rfl)) av_nil) (fun _ => ⟨0, rfl, rfl⟩)))
  (bv_cons (sl'' := sl_greedy_0) (sv_app (i := 1) (fun s : S_greedy => s.v_found) (fun s t => { s with v_found := t }) (fun _ => rfl) (fun _ _ => rfl) (pv_var (i := 3) (fun s : S_greedy => s.v_number) (fun _ => rfl)))
  (bv_cons (sl'' := sl_greedy_0) (sv_set (i := 2) (fun (s : S_greedy) t => { s with v_left := t }) (fun _ _ => rfl) nd (pv_calla (ok_minus T) (hr.mono (by decide)) (by rfl) T.m_minus T.F_minus.kp T.b_minus (av_a (pv_var (i := 2) (fun s : S_greedy => s.v_left) (fun _ => rfl)) (av_a (pv_tup2 pv_int (pv_var (i := 3) (fun s : S_greedy => s.v_number) (fun _ => rfl))) av_nil)) (fun _ => ⟨0, rfl, rfl⟩)))
  (bv_nil (h := fun (s : S_greedy) => ({ s with v_number := 0 } : S_greedy)) (fun _ => (.s (.s (.s (.d .nil))))))))))
  (bv_cons (sl'' := sl_greedy_2) (sv_reto (i := 1) (fun s : S_greedy => s.v_found) (fun _ => rfl))
  (bv_nil (sl := sl_greedy_2) (h := fun s => s) (fun _ => Wk.refl _))))))))
/-! ## plus -/
structure S_plus where
  mk ::
  v_one : (T2 Int Int)
  v_two : (T2 Int Int)
@[reducible] def sl_plus_0 (s : S_plus) : Sl := (fun s : S_plus => ([some (Mo.a, enc s.v_one), some (Mo.a, enc s.v_two)] : Sl)) s
def fb_plus (s : S_plus) : Option (Out S_plus (T2 Int Int)) :=
  seqO (((((((some s.v_one).bind fun x61 => some x61.a).bind fun x63 => ((some s.v_two).bind fun x62 => some x62.b).bind fun x64 => iMul x63 x64).bind fun x69 => (((some s.v_two).bind fun x65 => some x65.a).bind fun x67 => ((some s.v_one).bind fun x66 => some x66.b).bind fun x68 => iMul x67 x68).bind fun x70 => some (x69 + x70)).bind fun x75 => ((((some s.v_one).bind fun x71 => some x71.b).bind fun x73 => ((some s.v_two).bind fun x72 => some x72.b).bind fun x74 => iMul x73 x74).bind fun x76 => (some ()).bind fun x77 => some (x76, x77)).bind fun x78 => some (x75, x78)).bind fun x79 => F_fraction x79.1 x79.2.1).bind fun x80 => some (Out.rt x80)) fun s =>
  some (Out.nx (ρ := (T2 Int Int)) s)
def F_plus (v_one : (T2 Int Int)) (v_two : (T2 Int Int)) : Option (T2 Int Int) := outF none (fb_plus (⟨v_one, v_two⟩ : S_plus))
@[reducible] def sa_plus (a : (T2 Int Int) × (T2 Int Int) × Unit) : Sl := [some (Mo.a, enc a.1), some (Mo.a, enc a.2.1)]
@[reducible] def in_plus (a : (T2 Int Int) × (T2 Int Int) × Unit) : S_plus := ⟨a.1, a.2.1⟩
abbrev N_plus : List Str := ["one", "two"]
abbrev s_plus : Stmt := topS 33
theorem sc_plus : FnScope N_plus ["one", "two"] (defScope s_plus) := ⟨rfl, rfl, rfl, by decide +kernel, rfl, by decide +kernel, by decide +kernel⟩
theorem ok_plus (T : Top K mg) : FnOk P w K mg base CX0 2 T.a_plus T.d_plus ["one", "two"] (spF K N_plus 2 sa_plus .a (fun a => F_plus a.1 a.2.1)) := by
  have nd := sc_plus.nd
  refine fn_v (slE := sl_plus_0) (fb := fun a => fb_plus (in_plus a)) none T.F_plus sc_plus rfl (fun _ h => nomatch h) (.inl rfl) (fun _ => rfl) fun cdv A outer s H E hr => ?_
  exact (bv_wk (sl'' := sl_plus_0) (h := in_plus) (fun _ => Wk.refl _)
  (bv_cons (sl'' := sl_plus_0) (sv_ret (pv_calla (ok_fraction T) (hr.mono (by decide)) (by rfl) T.m_fraction T.F_fraction.kp T.b_fraction (av_a (pv_add (PV.ab (pv_mul (PV.ab (pv_ixT (fun t : (T2 Int Int) => [enc t.a, enc t.b]) (fun t => t.a) (fun _ => rfl) (fun _ => rfl) (PV.ab (pv_var (i := 0) (fun s : S_plus => s.v_one) (fun _ => rfl))))) (PV.ab (pv_ixT (fun t : (T2 Int Int) => [enc t.a, enc t.b]) (fun t => t.b) (fun _ => rfl) (fun _ => rfl) (PV.ab (pv_var (i := 1) (fun s : S_plus => s.v_two) (fun _ => rfl))))))) (PV.ab (pv_mul (PV.ab (pv_ixT (fun t : (T2 Int Int) => [enc t.a, enc t.b]) (fun t => t.a) (fun _ => rfl) (fun _ => rfl) (PV.ab (pv_var (i := 1) (fun s : S_plus => s.v_two) (fun _ => rfl))))) (PV.ab (pv_ixT (fun t : (T2 Int Int) => [enc t.a, enc t.b]) (fun t => t.b) (fun _ => rfl) (fun _ => rfl) (PV.ab (pv_var (i := 0) (fun s : S_plus => s.v_one) (fun _ => rfl)))))))) (av_a (pv_mul (PV.ab (pv_ixT (fun t : (T2 Int Int) => [enc t.a, enc t.b]) (fun t => t.b) (fun _ => rfl) (fun _ => rfl) (PV.ab (pv_var (i := 0) (fun s : S_plus => s.v_one) (fun _ => rfl))))) (PV.ab (pv_ixT (fun t : (T2 Int Int) => [enc t.a, enc t.b]) (fun t => t.b) (fun _ => rfl) (fun _ => rfl) (PV.ab (pv_var (i := 1) (fun s : S_plus => s.v_two) (fun _ => rfl)))))) av_nil)) (fun _ => ⟨1, rfl, rfl⟩)))
  (bv_nil (sl := sl_plus_0) (h := fun s => s) (fun _ => Wk.refl _))))
/-! ## is_sum -/
structure S_is_sum where
  mk ::
  v_part : (T2 Int Int)
  v_told : (List Int)
  v_found : (T2 Int Int)
  v_number : Int
@[reducible] def sl_is_sum_0 (s : S_is_sum) : Sl := (fun s : S_is_sum => ([some (Mo.a, enc s.v_part), some (Mo.a, enc s.v_told), none, none, none, none] : Sl)) s
@[reducible] def sl_is_sum_1 (s : S_is_sum) : Sl := (fun s : S_is_sum => ([some (Mo.a, enc s.v_part), some (Mo.a, enc s.v_told), some (Mo.a, enc s.v_found), some (Mo.a, enc s.v_number), none, none] : Sl)) s
@[reducible] def sl_is_sum_2 (s : S_is_sum) : Sl := (fun s : S_is_sum => ([some (Mo.a, enc s.v_part), some (Mo.a, enc s.v_told), some (Mo.a, enc s.v_found), none, none, none] : Sl)) s
def lp_is_sum_0 (s : S_is_sum) : Option (Out S_is_sum Bool) :=
  seqO ((((some s.v_found).bind fun x171 => ((((some (1 : Int)).bind fun x166 => ((some s.v_number).bind fun x167 => (some ()).bind fun x168 => some (x167, x168)).bind fun x169 => some (x166, x169)).bind fun x170 => F_fraction x170.1 x170.2.1).bind fun x172 => (some ()).bind fun x173 => some (x172, x173)).bind fun x174 => some (x171, x174)).bind fun x175 => F_plus x175.1 x175.2.1).bind fun x176 => some (Out.nx (ρ := Bool) { s with v_found := x176 })) fun s =>
  some (Out.nx (ρ := Bool) { s with v_number := 0 })
def fb_is_sum (s : S_is_sum) : Option (Out S_is_sum Bool) :=
  seqO ((((some s.v_part).bind fun x48 => (some ()).bind fun x49 => some (x48, x49)).bind fun x50 => F_check_some x50.1).bind fun _ => some (Out.nx (ρ := Bool) s)) fun s =>
  seqO ((((((some s.v_told).bind fun x92 => (lNew x92).bind fun x93 => compO (fun s : (S_is_sum × Int) => some true) (fun s : (S_is_sum × Int) => (some s.2).bind fun x90 => (some (1 : Int)).bind fun x91 => some (decide (x90 > x91))) (fun t : Int => ((s, t) : (S_is_sum × Int))) x93).bind fun x94 => some (x94.all id)).bind fun x95 => some (!x95)).bind fun x108 => if x108 = true then some true else ((((some s.v_told).bind fun x100 => ((some s.v_told).bind fun x97 => ((some (1 : Int)).bind fun x96 => some (some x96)).bind fun x98 => (some (none : Option Int)).bind fun x99 => some (cut x97 x98 x99)).bind fun x101 => some (List.zipWith T2.mk x100 x101)).bind fun x104 => (lNew x104).bind fun x105 => compO (fun s : ((S_is_sum × Int) × Int) => some true) (fun s : ((S_is_sum × Int) × Int) => (some s.1.2).bind fun x102 => (some s.2).bind fun x103 => some (decide (x102 < x103))) (fun t : (T2 Int Int) => (((s, t.a), t.b) : ((S_is_sum × Int) × Int))) x105).bind fun x106 => some (x106.all id)).bind fun x107 => some (!x107)).bind fun x112 => if x112 = true then
  (seqO ((some false).bind fun x111 => some (Out.rt x111)) fun s =>
  some (Out.nx (ρ := Bool) s))
  else some (Out.nx (ρ := Bool) s)) fun s =>
  seqO (((some (0 : Int)).bind fun x119 => (some (1 : Int)).bind fun x120 => some (T2.mk x119 x120)).bind fun x121 => some (Out.nx (ρ := Bool) { s with v_found := x121 })) fun s =>
  seqO ((some s.v_told).bind fun x177 => forO (fun (s : S_is_sum) (t : Int) => { s with v_number := t }) lp_is_sum_0 x177 s) fun s =>
  seqO (((some s.v_found).bind fun x187 => ((some s.v_part).bind fun x186 => some x186).bind fun x188 => dEq x187 x188).bind fun x189 => some (Out.rt x189)) fun s =>
  some (Out.nx (ρ := Bool) s)
def F_is_sum (v_part : (T2 Int Int)) (v_told : (List Int)) : Option Bool := outF none (fb_is_sum (⟨v_part, v_told, ⟨0, 0⟩, 0⟩ : S_is_sum))
@[reducible] def sa_is_sum (a : (T2 Int Int) × (List Int) × Unit) : Sl := [some (Mo.a, enc a.1), some (Mo.a, enc a.2.1), none, none, none, none]
@[reducible] def in_is_sum (a : (T2 Int Int) × (List Int) × Unit) : S_is_sum := ⟨a.1, a.2.1, ⟨0, 0⟩, 0⟩
abbrev N_is_sum : List Str := ["part", "told", "found", "number", "one", "two"]
abbrev s_is_sum : Stmt := topS 49
theorem sc_is_sum : FnScope N_is_sum ["part", "told"] (defScope s_is_sum) := ⟨rfl, rfl, rfl, by decide +kernel, rfl, by decide +kernel, by decide +kernel⟩
theorem ok_is_sum (T : Top K mg) : FnOk P w K mg base CX0 4 T.a_is_sum T.d_is_sum ["part", "told"] (spF K N_is_sum 2 sa_is_sum .a (fun a => F_is_sum a.1 a.2.1)) := by
  have nd := sc_is_sum.nd
  refine fn_v (slE := sl_is_sum_0) (fb := fun a => fb_is_sum (in_is_sum a)) none T.F_is_sum sc_is_sum rfl (fun _ h => nomatch h) (.inl rfl) (fun _ => rfl) fun cdv A outer s H E hr => ?_
  exact (bv_wk (sl'' := sl_is_sum_0) (h := in_is_sum) (fun _ => Wk.refl _)
  (bv_cons (sl'' := sl_is_sum_0) (sv_expr (pv_calla (ok_check_some T) (hr.mono (by decide)) (by rfl) T.m_check_some T.F_check_some.kp T.b_check_some (av_a (pv_var (i := 0) (fun s : S_is_sum => s.v_part) (fun _ => rfl)) av_nil) (fun _ => ⟨0, rfl, rfl⟩)))
  (bv_cons (sl'' := sl_is_sum_0) (sv_if (PBw.pb (pb_or (pb_not (pv_val (pv_all (by rfl) T.z_all (PV.fb (pv_lc (own := [("number", 3)]) (js := [3]) (slb := (fun s : (S_is_sum × Int) => ([some (Mo.a, enc s.1.v_part), some (Mo.a, enc s.1.v_told), none, some (Mo.a, enc s.2), none, none] : Sl))) (set := fun (g : S_is_sum) (t : Int) => ((g, t) : (S_is_sum × Int))) nd (IV.ab (piv_list (pv_var (i := 1) (fun s : S_is_sum => s.v_told) (fun _ => rfl)))) (blkOk_by (N := N_is_sum) (sc := defScope s_is_sum) (by decide +kernel)) (by decide) (fun _ _ _ _ _ => (gv_name (i := 3) (fun _ _ => rfl) nd)) (fun _ _ _ _ _ => pbs_nil) (fun _ _ _ _ _ => (pv_cmp c_gt (PV.ab (pv_var (i := 3) (fun s : (S_is_sum × Int) => s.2) (fun _ => rfl))) (PV.ab pv_int)))))))) (pb_or1 (pb_not (pv_val (pv_all (by rfl) T.z_all (PV.fb (pv_lc (own := [("one", 4), ("two", 5)]) (js := [4, 5]) (slb := (fun s : ((S_is_sum × Int) × Int) => ([some (Mo.a, enc s.1.1.v_part), some (Mo.a, enc s.1.1.v_told), none, none, some (Mo.a, enc s.1.2), some (Mo.a, enc s.2)] : Sl))) (set := fun (g : S_is_sum) (t : (T2 Int Int)) => (((g, t.a), t.b) : ((S_is_sum × Int) × Int))) nd (IV.ab (piv_zip (by rfl) T.z_zip (pv_var (i := 1) (fun s : S_is_sum => s.v_told) (fun _ => rfl)) (PV.fa (pv_sl (PV.ab (pv_var (i := 1) (fun s : S_is_sum => s.v_told) (fun _ => rfl))) (pvo_some (PV.ab pv_int)) pvo_none)))) (blkOk_by (N := N_is_sum) (sc := defScope s_is_sum) (by decide +kernel)) (by decide) (fun _ _ _ _ _ => (gv_tup (fun t : (T2 Int Int) => [enc t.a, enc t.b]) (fun _ => rfl) (fun _ => rfl) (gvs_cons (p1 := fun t : (T2 Int Int) => t.a) (p2 := fun t : (T2 Int Int) => t) (gv_name (i := 4) (slb := (fun s : (S_is_sum × Int) => ([some (Mo.a, enc s.1.v_part), some (Mo.a, enc s.1.v_told), none, none, some (Mo.a, enc s.2), none] : Sl))) (set := fun (g : S_is_sum) (t : Int) => ((g, t) : (S_is_sum × Int))) (fun _ _ => rfl) nd) (gvs_cons (p1 := fun t : (T2 Int Int) => t.b) (p2 := fun t : (T2 Int Int) => t) (gv_name (i := 5) (slb := (fun s : ((S_is_sum × Int) × Int) => ([some (Mo.a, enc s.1.1.v_part), some (Mo.a, enc s.1.1.v_told), none, none, some (Mo.a, enc s.1.2), some (Mo.a, enc s.2)] : Sl))) (set := fun (g : (S_is_sum × Int)) (t : Int) => ((g, t) : ((S_is_sum × Int) × Int))) (fun _ _ => rfl) nd) gvs_nil)))) (fun _ _ _ _ _ => pbs_nil) (fun _ _ _ _ _ => (pv_cmp c_lt (PV.ab (pv_var (i := 4) (fun s : ((S_is_sum × Int) × Int) => s.1.2) (fun _ => rfl))) (PV.ab (pv_var (i := 5) (fun s : ((S_is_sum × Int) × Int) => s.2) (fun _ => rfl)))))))))))))
  (bv_cons (sl'' := sl_is_sum_0) (sv_ret pv_bool)
  (bv_nil (sl := sl_is_sum_0) (h := fun s => s) (fun _ => Wk.refl _)))
  (bv_nil (h := fun (s : S_is_sum) => (s : S_is_sum)) (fun _ => (.s (.s (.s (.s (.s (.s .nil)))))))))
  (bv_cons (sl'' := sl_is_sum_2) (sv_set (i := 2) (fun (s : S_is_sum) t => { s with v_found := t }) (fun _ _ => rfl) nd (pv_tup2 pv_int pv_int))
  (bv_cons (sl'' := sl_is_sum_2) (sv_for (sl := sl_is_sum_2) PassesOwn.never (piv_list (pv_var (i := 1) (fun s : S_is_sum => s.v_told) (fun _ => rfl))) (gv_name (i := 3) (slb := sl_is_sum_1) (set := (fun (s : S_is_sum) (t : Int) => { s with v_number := t })) (fun _ _ => rfl) nd)
  (bv_cons (sl'' := sl_is_sum_1) (sv_set (i := 2) (fun (s : S_is_sum) t => { s with v_found := t }) (fun _ _ => rfl) nd (pv_calla (ok_plus T) (hr.mono (by decide)) (by rfl) T.m_plus T.F_plus.kp T.b_plus (av_a (pv_var (i := 2) (fun s : S_is_sum => s.v_found) (fun _ => rfl)) (av_a (pv_calla (ok_fraction T) (hr.mono (by decide)) (by rfl) T.m_fraction T.F_fraction.kp T.b_fraction (av_a pv_int (av_a (pv_var (i := 3) (fun s : S_is_sum => s.v_number) (fun _ => rfl)) av_nil)) (fun _ => ⟨1, rfl, rfl⟩)) av_nil)) (fun _ => ⟨0, rfl, rfl⟩)))
  (bv_nil (h := fun (s : S_is_sum) => ({ s with v_number := 0 } : S_is_sum)) (fun _ => (.s (.s (.s (.d (.s (.s .nil))))))))))
  (bv_cons (sl'' := sl_is_sum_0) (sv_ret (pv_cmp (c_eqD (hu64 hr)) (PV.ab (pv_var (i := 2) (fun s : S_is_sum => s.v_found) (fun _ => rfl))) (PV.ab (pv_tupleT (fun t : (T2 Int Int) => [enc t.a, enc t.b]) (fun _ => rfl) (by rfl) T.z_tuple (PV.ab (pv_var (i := 0) (fun s : S_is_sum => s.v_part) (fun _ => rfl)))))))
  (bv_nil (sl := sl_is_sum_0) (h := fun s => s) (fun _ => Wk.refl _))))))))
/-! ## zeros_of -/
structure S_zeros_of where
  mk ::
  v_number : Int
  v_base : Int
  v_found : Int
@[reducible] def sl_zeros_of_0 (s : S_zeros_of) : Sl := (fun s : S_zeros_of => ([some (Mo.a, enc s.v_number), some (Mo.a, enc s.v_base), some (Mo.a, enc s.v_found)] : Sl)) s
@[reducible] def sl_zeros_of_1 (s : S_zeros_of) : Sl := (fun s : S_zeros_of => ([some (Mo.a, enc s.v_number), some (Mo.a, enc s.v_base), none] : Sl)) s
def lp_zeros_of_0 (s : S_zeros_of) : Option (Out S_zeros_of Int) :=
  seqO (((some s.v_number).bind fun x46 => (some s.v_base).bind fun x47 => iDiv x46 x47).bind fun x48 => some (Out.nx (ρ := Int) { s with v_number := x48 })) fun s =>
  seqO (((some s.v_found).bind fun x55 => (some (1 : Int)).bind fun x56 => some (x55 + x56)).bind fun x57 => some (Out.nx (ρ := Int) { s with v_found := x57 })) fun s =>
  some (Out.nx (ρ := Int) s)
def lc_zeros_of_1 (s : S_zeros_of) : Option Bool :=
  ((some s.v_number).bind fun x36 => (some s.v_base).bind fun x37 => iMod x36 x37).bind fun x38 => (some (0 : Int)).bind fun x39 => some (decide (x38 = x39))
def fb_zeros_of (s : S_zeros_of) : Option (Out S_zeros_of Int) :=
  seqO ((some (0 : Int)).bind fun x15 => some (Out.nx (ρ := Int) { s with v_found := x15 })) fun s =>
  seqO (whileO lc_zeros_of_1 lp_zeros_of_0 FUEL s) fun s =>
  seqO ((some s.v_found).bind fun x60 => some (Out.rt x60)) fun s =>
  some (Out.nx (ρ := Int) s)
def F_zeros_of (v_number : Int) (v_base : Int) : Option Int := outF none (fb_zeros_of (⟨v_number, v_base, 0⟩ : S_zeros_of))
@[reducible] def sa_zeros_of (a : Int × Int × Unit) : Sl := [some (Mo.a, enc a.1), some (Mo.a, enc a.2.1), none]
@[reducible] def in_zeros_of (a : Int × Int × Unit) : S_zeros_of := ⟨a.1, a.2.1, 0⟩
abbrev N_zeros_of : List Str := ["number", "base", "found"]
abbrev s_zeros_of : Stmt := topS 28
theorem sc_zeros_of : FnScope N_zeros_of ["number", "base"] (defScope s_zeros_of) := ⟨rfl, rfl, rfl, by decide +kernel, rfl, by decide +kernel, by decide +kernel⟩
theorem ok_zeros_of (T : Top K mg) : FnOk P w K mg base CX0 1 T.a_zeros_of T.d_zeros_of ["number", "base"] (spF K N_zeros_of 2 sa_zeros_of .a (fun a => F_zeros_of a.1 a.2.1)) := by
  have nd := sc_zeros_of.nd
  refine fn_v (slE := sl_zeros_of_1) (fb := fun a => fb_zeros_of (in_zeros_of a)) none T.F_zeros_of sc_zeros_of rfl (fun _ h => nomatch h) (.inl rfl) (fun _ => rfl) fun cdv A outer s H E hr => ?_
  exact (bv_wk (sl'' := sl_zeros_of_1) (h := in_zeros_of) (fun _ => Wk.refl _)
  (bv_cons (sl'' := sl_zeros_of_0) (sv_set (i := 2) (fun (s : S_zeros_of) t => { s with v_found := t }) (fun _ _ => rfl) nd pv_int)
  (bv_cons (sl'' := sl_zeros_of_0) (sv_while (sl := sl_zeros_of_0) FUEL PassesOwn.never (pb_cmp c_eqS (PV.ab (pv_mod (PV.ab (pv_var (i := 0) (fun s : S_zeros_of => s.v_number) (fun _ => rfl))) (PV.ab (pv_var (i := 1) (fun s : S_zeros_of => s.v_base) (fun _ => rfl))))) (PV.ab pv_int))
  (bv_cons (sl'' := sl_zeros_of_0) (sv_set (i := 0) (fun (s : S_zeros_of) t => { s with v_number := t }) (fun _ _ => rfl) nd (pv_div (PV.ab (pv_var (i := 0) (fun s : S_zeros_of => s.v_number) (fun _ => rfl))) (PV.ab (pv_var (i := 1) (fun s : S_zeros_of => s.v_base) (fun _ => rfl)))))
  (bv_cons (sl'' := sl_zeros_of_0) (sv_set (i := 2) (fun (s : S_zeros_of) t => { s with v_found := t }) (fun _ _ => rfl) nd (pv_add (PV.ab (pv_var (i := 2) (fun s : S_zeros_of => s.v_found) (fun _ => rfl))) (PV.ab pv_int)))
  (bv_nil (h := fun (s : S_zeros_of) => (s : S_zeros_of)) (fun _ => (.s (.s (.s .nil))))))))
  (bv_cons (sl'' := sl_zeros_of_1) (sv_ret (pv_var (i := 2) (fun s : S_zeros_of => s.v_found) (fun _ => rfl)))
  (bv_nil (sl := sl_zeros_of_1) (h := fun s => s) (fun _ => Wk.refl _))))))
/-! ## zeros -/
structure S_zeros where
  mk ::
  v_number : Int
  v_base : Int
@[reducible] def sl_zeros_0 (s : S_zeros) : Sl := (fun s : S_zeros => ([some (Mo.a, enc s.v_number), some (Mo.a, enc s.v_base)] : Sl)) s
def fb_zeros (s : S_zeros) : Option (Out S_zeros Int) :=
  seqO ((((some s.v_base).bind fun x54 => ((((some s.v_number).bind fun x49 => (some (1 : Int)).bind fun x50 => (some (1000000 : Int)).bind fun x51 => some (T3.mk x49 x50 x51)).bind fun x52 => (some ([] : List (T3 Int Int Int))).bind fun x53 => some (x52 :: x53)).bind fun x55 => (some ()).bind fun x56 => some (x55, x56)).bind fun x57 => some (x54, x57)).bind fun x58 => F_check_numbers x58.1 x58.2.1).bind fun _ => some (Out.nx (ρ := Int) s)) fun s =>
  seqO ((((some s.v_number).bind fun x71 => ((some s.v_base).bind fun x72 => (some ()).bind fun x73 => some (x72, x73)).bind fun x74 => some (x71, x74)).bind fun x75 => F_zeros_of x75.1 x75.2.1).bind fun x76 => some (Out.rt x76)) fun s =>
  some (Out.nx (ρ := Int) s)
def F_zeros (v_number : Int) (v_base : Int) : Option Int := outF none (fb_zeros (⟨v_number, v_base⟩ : S_zeros))
@[reducible] def sa_zeros (a : Int × Int × Unit) : Sl := [some (Mo.a, enc a.1), some (Mo.a, enc a.2.1)]
@[reducible] def in_zeros (a : Int × Int × Unit) : S_zeros := ⟨a.1, a.2.1⟩
abbrev N_zeros : List Str := ["number", "base"]
abbrev s_zeros : Stmt := topS 29
theorem sc_zeros : FnScope N_zeros ["number", "base"] (defScope s_zeros) := ⟨rfl, rfl, rfl, by decide +kernel, rfl, by decide +kernel, by decide +kernel⟩
theorem ok_zeros (T : Top K mg) : FnOk P w K mg base CX0 3 T.a_zeros T.d_zeros ["number", "base"] (spF K N_zeros 2 sa_zeros .a (fun a => F_zeros a.1 a.2.1)) := by
  have nd := sc_zeros.nd
  refine fn_v (slE := sl_zeros_0) (fb := fun a => fb_zeros (in_zeros a)) none T.F_zeros sc_zeros rfl (fun _ h => nomatch h) (.inl rfl) (fun _ => rfl) fun cdv A outer s H E hr => ?_
  exact (bv_wk (sl'' := sl_zeros_0) (h := in_zeros) (fun _ => Wk.refl _)
  (bv_cons (sl'' := sl_zeros_0) (sv_expr (pv_calla (ok_check_numbers T) (hr.mono (by decide)) (by rfl) T.m_check_numbers T.F_check_numbers.kp T.b_check_numbers (av_a (pv_var (i := 1) (fun s : S_zeros => s.v_base) (fun _ => rfl)) (av_b (PV.fb (pv_lst (pal_cons (pv_tup3 (pv_var (i := 0) (fun s : S_zeros => s.v_number) (fun _ => rfl)) pv_int (pv_gint (i := 1000000) (by rfl) T.c_MOST_NUMBER.choose_spec ⟨_, rfl⟩)) (pal_nil (τ := (T3 Int Int Int)))))) av_nil)) (fun _ => ⟨3, rfl, rfl⟩)))
  (bv_cons (sl'' := sl_zeros_0) (sv_ret (pv_calla (ok_zeros_of T) (hr.mono (by decide)) (by rfl) T.m_zeros_of T.F_zeros_of.kp T.b_zeros_of (av_a (pv_var (i := 0) (fun s : S_zeros => s.v_number) (fun _ => rfl)) (av_a (pv_var (i := 1) (fun s : S_zeros => s.v_base) (fun _ => rfl)) av_nil)) (fun _ => ⟨1, rfl, rfl⟩)))
  (bv_nil (sl := sl_zeros_0) (h := fun s => s) (fun _ => Wk.refl _)))))
/-! ## digits_of -/
structure S_digits_of where
  mk ::
  v_number : Int
  v_base : Int
  v_found : (List Int)
  v_rest : Int
@[reducible] def sl_digits_of_0 (s : S_digits_of) : Sl := (fun s : S_digits_of => ([some (Mo.a, enc s.v_number), some (Mo.a, enc s.v_base), some (Mo.o, enc s.v_found), some (Mo.a, enc s.v_rest)] : Sl)) s
@[reducible] def sl_digits_of_1 (s : S_digits_of) : Sl := (fun s : S_digits_of => ([some (Mo.a, enc s.v_number), some (Mo.a, enc s.v_base), none, none] : Sl)) s
@[reducible] def sl_digits_of_2 (s : S_digits_of) : Sl := (fun s : S_digits_of => ([some (Mo.a, enc s.v_number), some (Mo.a, enc s.v_base), some (Mo.o, enc s.v_found), none] : Sl)) s
def lp_digits_of_0 (s : S_digits_of) : Option (Out S_digits_of (List Int)) :=
  seqO (((some s.v_rest).bind fun x90 => (some s.v_base).bind fun x91 => iMod x90 x91).bind fun x92 => (push s.v_found x92).bind fun x93 => some (Out.nx (ρ := (List Int)) { s with v_found := x93 })) fun s =>
  seqO (((some s.v_rest).bind fun x100 => (some s.v_base).bind fun x101 => iDiv x100 x101).bind fun x102 => some (Out.nx (ρ := (List Int)) { s with v_rest := x102 })) fun s =>
  some (Out.nx (ρ := (List Int)) s)
def lc_digits_of_1 (s : S_digits_of) : Option Bool :=
  (some s.v_rest).bind fun x80 => (some (0 : Int)).bind fun x81 => some (decide (x80 > x81))
def fb_digits_of (s : S_digits_of) : Option (Out S_digits_of (List Int)) :=
  seqO ((((some s.v_number).bind fun x48 => (some s.v_base).bind fun x49 => iMod x48 x49).bind fun x50 => (some ([] : List Int)).bind fun x51 => some (x50 :: x51)).bind fun x52 => some (Out.nx (ρ := (List Int)) { s with v_found := x52 })) fun s =>
  seqO (((some s.v_number).bind fun x59 => (some s.v_base).bind fun x60 => iDiv x59 x60).bind fun x61 => some (Out.nx (ρ := (List Int)) { s with v_rest := x61 })) fun s =>
  seqO (whileO lc_digits_of_1 lp_digits_of_0 FUEL s) fun s =>
  seqO (some (Out.rt s.v_found)) fun s =>
  some (Out.nx (ρ := (List Int)) s)
def F_digits_of (v_number : Int) (v_base : Int) : Option (List Int) := outF none (fb_digits_of (⟨v_number, v_base, [], 0⟩ : S_digits_of))
@[reducible] def sa_digits_of (a : Int × Int × Unit) : Sl := [some (Mo.a, enc a.1), some (Mo.a, enc a.2.1), none, none]
@[reducible] def in_digits_of (a : Int × Int × Unit) : S_digits_of := ⟨a.1, a.2.1, [], 0⟩
abbrev N_digits_of : List Str := ["number", "base", "found", "rest"]
abbrev s_digits_of : Stmt := topS 15
theorem sc_digits_of : FnScope N_digits_of ["number", "base"] (defScope s_digits_of) := ⟨rfl, rfl, rfl, by decide +kernel, rfl, by decide +kernel, by decide +kernel⟩
theorem ok_digits_of (T : Top K mg) : FnOk P w K mg base CX0 1 T.a_digits_of T.d_digits_of ["number", "base"] (spF K N_digits_of 2 sa_digits_of .f (fun a => F_digits_of a.1 a.2.1)) := by
  have nd := sc_digits_of.nd
  refine fn_v (slE := sl_digits_of_1) (fb := fun a => fb_digits_of (in_digits_of a)) none T.F_digits_of sc_digits_of rfl (fun _ h => nomatch h) (.inr ⟨rfl, rfl⟩) (fun _ => rfl) fun cdv A outer s H E hr => ?_
  exact (bv_wk (sl'' := sl_digits_of_1) (h := in_digits_of) (fun _ => Wk.refl _)
  (bv_cons (sl'' := sl_digits_of_2) (sv_own (i := 2) (fun (s : S_digits_of) t => { s with v_found := t }) (fun _ _ => rfl) nd (pv_lst (pal_cons (pv_mod (PV.ab (pv_var (i := 0) (fun s : S_digits_of => s.v_number) (fun _ => rfl))) (PV.ab (pv_var (i := 1) (fun s : S_digits_of => s.v_base) (fun _ => rfl)))) (pal_nil (τ := Int)))))
  (bv_cons (sl'' := sl_digits_of_0) (sv_set (i := 3) (fun (s : S_digits_of) t => { s with v_rest := t }) (fun _ _ => rfl) nd (pv_div (PV.ab (pv_var (i := 0) (fun s : S_digits_of => s.v_number) (fun _ => rfl))) (PV.ab (pv_var (i := 1) (fun s : S_digits_of => s.v_base) (fun _ => rfl)))))
  (bv_cons (sl'' := sl_digits_of_0) (sv_while (sl := sl_digits_of_0) FUEL PassesOwn.never (pb_cmp c_gt (PV.ab (pv_var (i := 3) (fun s : S_digits_of => s.v_rest) (fun _ => rfl))) (PV.ab pv_int))
  (bv_cons (sl'' := sl_digits_of_0) (sv_app (i := 2) (fun s : S_digits_of => s.v_found) (fun s t => { s with v_found := t }) (fun _ => rfl) (fun _ _ => rfl) (pv_mod (PV.ab (pv_var (i := 3) (fun s : S_digits_of => s.v_rest) (fun _ => rfl))) (PV.ab (pv_var (i := 1) (fun s : S_digits_of => s.v_base) (fun _ => rfl)))))
  (bv_cons (sl'' := sl_digits_of_0) (sv_set (i := 3) (fun (s : S_digits_of) t => { s with v_rest := t }) (fun _ _ => rfl) nd (pv_div (PV.ab (pv_var (i := 3) (fun s : S_digits_of => s.v_rest) (fun _ => rfl))) (PV.ab (pv_var (i := 1) (fun s : S_digits_of => s.v_base) (fun _ => rfl)))))
  (bv_nil (h := fun (s : S_digits_of) => (s : S_digits_of)) (fun _ => (.s (.s (.s (.s .nil)))))))))
  (bv_cons (sl'' := sl_digits_of_1) (sv_reto (i := 2) (fun s : S_digits_of => s.v_found) (fun _ => rfl))
  (bv_nil (sl := sl_digits_of_1) (h := fun s => s) (fun _ => Wk.refl _)))))))
/-! ## write_of -/
structure S_write_of where
  mk ::
  v_number : Int
  v_base : Int
@[reducible] def sl_write_of_0 (s : S_write_of) : Sl := (fun s : S_write_of => ([some (Mo.a, enc s.v_number), some (Mo.a, enc s.v_base), none] : Sl)) s
def fb_write_of (s : S_write_of) : Option (Out S_write_of Tx) :=
  seqO (((some (⟨[]⟩ : Tx)).bind fun x50 => (((((some s.v_number).bind fun x40 => ((some s.v_base).bind fun x41 => (some ()).bind fun x42 => some (x41, x42)).bind fun x43 => some (x40, x43)).bind fun x44 => F_digits_of x44.1 x44.2.1).bind fun x45 => some x45.reverse).bind fun x48 => (lNew x48).bind fun x49 => compO (fun s : (S_write_of × Int) => some true) (fun s : (S_write_of × Int) => (some (⟨c_DIGITS_l⟩ : Tx)).bind fun x46 => (some s.2).bind fun x47 => sIx x46 x47) (fun t : Int => ((s, t) : (S_write_of × Int))) x49).bind fun x51 => tJn x50 x51).bind fun x52 => some (Out.rt x52)) fun s =>
  some (Out.nx (ρ := Tx) s)
def F_write_of (v_number : Int) (v_base : Int) : Option Tx := outF none (fb_write_of (⟨v_number, v_base⟩ : S_write_of))
@[reducible] def sa_write_of (a : Int × Int × Unit) : Sl := [some (Mo.a, enc a.1), some (Mo.a, enc a.2.1), none]
@[reducible] def in_write_of (a : Int × Int × Unit) : S_write_of := ⟨a.1, a.2.1⟩
abbrev N_write_of : List Str := ["number", "base", "digit"]
abbrev s_write_of : Stmt := topS 16
theorem sc_write_of : FnScope N_write_of ["number", "base"] (defScope s_write_of) := ⟨rfl, rfl, rfl, by decide +kernel, rfl, by decide +kernel, by decide +kernel⟩
theorem ok_write_of (T : Top K mg) : FnOk P w K mg base CX0 2 T.a_write_of T.d_write_of ["number", "base"] (spF K N_write_of 2 sa_write_of .a (fun a => F_write_of a.1 a.2.1)) := by
  have nd := sc_write_of.nd
  refine fn_v (slE := sl_write_of_0) (fb := fun a => fb_write_of (in_write_of a)) none T.F_write_of sc_write_of rfl (fun _ h => nomatch h) (.inl rfl) (fun _ => rfl) fun cdv A outer s H E hr => ?_
  exact (bv_wk (sl'' := sl_write_of_0) (h := in_write_of) (fun _ => Wk.refl _)
  (bv_cons (sl'' := sl_write_of_0) (sv_ret (pv_join (PV.ab (pv_str [])) (PV.fb (pv_lc (own := [("digit", 2)]) (js := [2]) (slb := (fun s : (S_write_of × Int) => ([some (Mo.a, enc s.1.v_number), some (Mo.a, enc s.1.v_base), some (Mo.a, enc s.2)] : Sl))) (set := fun (g : S_write_of) (t : Int) => ((g, t) : (S_write_of × Int))) nd (IV.ab (piv_list (PV.fa (pv_rev (PV.fb (pv_callf (ok_digits_of T) (hr.mono (by decide)) (by rfl) T.m_digits_of T.F_digits_of.kp T.b_digits_of (av_a (pv_var (i := 0) (fun s : S_write_of => s.v_number) (fun _ => rfl)) (av_a (pv_var (i := 1) (fun s : S_write_of => s.v_base) (fun _ => rfl)) av_nil)) (fun _ => ⟨2, rfl, rfl⟩))))))) (blkOk_by (N := N_write_of) (sc := defScope s_write_of) (by decide +kernel)) (by decide) (fun _ _ _ _ _ => (gv_name (i := 2) (fun _ _ => rfl) nd)) (fun _ _ _ _ _ => pbs_nil) (fun _ _ _ _ _ => (pv_ixS (PV.ab (pv_gstr c_DIGITS_l (by rfl) T.c_DIGITS.choose_spec ⟨_, rfl⟩)) (PV.ab (pv_var (i := 2) (fun s : (S_write_of × Int) => s.2) (fun _ => rfl)))))))))
  (bv_nil (sl := sl_write_of_0) (h := fun s => s) (fun _ => Wk.refl _))))
/-! ## power_rest -/
structure S_power_rest where
  mk ::
  v_number : Int
  v_exponent : Int
  v_by : Int
  v_found : Int
  v_square : Int
  v_left : Int
@[reducible] def sl_power_rest_0 (s : S_power_rest) : Sl := (fun s : S_power_rest => ([some (Mo.a, enc s.v_number), some (Mo.a, enc s.v_exponent), some (Mo.a, enc s.v_by), some (Mo.a, enc s.v_found), some (Mo.a, enc s.v_square), some (Mo.a, enc s.v_left)] : Sl)) s
@[reducible] def sl_power_rest_1 (s : S_power_rest) : Sl := (fun s : S_power_rest => ([some (Mo.a, enc s.v_number), some (Mo.a, enc s.v_exponent), some (Mo.a, enc s.v_by), none, none, none] : Sl)) s
@[reducible] def sl_power_rest_2 (s : S_power_rest) : Sl := (fun s : S_power_rest => ([some (Mo.a, enc s.v_number), some (Mo.a, enc s.v_exponent), some (Mo.a, enc s.v_by), some (Mo.a, enc s.v_found), some (Mo.a, enc s.v_square), none] : Sl)) s
@[reducible] def sl_power_rest_3 (s : S_power_rest) : Sl := (fun s : S_power_rest => ([some (Mo.a, enc s.v_number), some (Mo.a, enc s.v_exponent), some (Mo.a, enc s.v_by), some (Mo.a, enc s.v_found), none, none] : Sl)) s
def lp_power_rest_0 (s : S_power_rest) : Option (Out S_power_rest Int) :=
  seqO ((((some s.v_left).bind fun x102 => (some (2 : Int)).bind fun x103 => iMod x102 x103).bind fun x104 => (some (1 : Int)).bind fun x105 => some (decide (x104 = x105))).bind fun x121 => if x121 = true then
  (seqO ((((some s.v_found).bind fun x116 => (some s.v_square).bind fun x117 => iMul x116 x117).bind fun x118 => (some s.v_by).bind fun x119 => iMod x118 x119).bind fun x120 => some (Out.nx (ρ := Int) { s with v_found := x120 })) fun s =>
  some (Out.nx (ρ := Int) s))
  else some (Out.nx (ρ := Int) s)) fun s =>
  seqO ((((some s.v_square).bind fun x132 => (some s.v_square).bind fun x133 => iMul x132 x133).bind fun x134 => (some s.v_by).bind fun x135 => iMod x134 x135).bind fun x136 => some (Out.nx (ρ := Int) { s with v_square := x136 })) fun s =>
  seqO (((some s.v_left).bind fun x143 => (some (2 : Int)).bind fun x144 => iDiv x143 x144).bind fun x145 => some (Out.nx (ρ := Int) { s with v_left := x145 })) fun s =>
  some (Out.nx (ρ := Int) s)
def lc_power_rest_1 (s : S_power_rest) : Option Bool :=
  (some s.v_left).bind fun x87 => (some (0 : Int)).bind fun x88 => some (decide (x87 > x88))
def fb_power_rest (s : S_power_rest) : Option (Out S_power_rest Int) :=
  seqO (((some (1 : Int)).bind fun x34 => (some s.v_by).bind fun x35 => iMod x34 x35).bind fun x36 => some (Out.nx (ρ := Int) { s with v_found := x36 })) fun s =>
  seqO (((some s.v_number).bind fun x43 => (some s.v_by).bind fun x44 => iMod x43 x44).bind fun x45 => some (Out.nx (ρ := Int) { s with v_square := x45 })) fun s =>
  seqO ((some s.v_exponent).bind fun x48 => some (Out.nx (ρ := Int) { s with v_left := x48 })) fun s =>
  seqO (whileO lc_power_rest_1 lp_power_rest_0 FUEL s) fun s =>
  seqO ((some s.v_found).bind fun x148 => some (Out.rt x148)) fun s =>
  some (Out.nx (ρ := Int) s)
def F_power_rest (v_number : Int) (v_exponent : Int) (v_by : Int) : Option Int := outF none (fb_power_rest (⟨v_number, v_exponent, v_by, 0, 0, 0⟩ : S_power_rest))
@[reducible] def sa_power_rest (a : Int × Int × Int × Unit) : Sl := [some (Mo.a, enc a.1), some (Mo.a, enc a.2.1), some (Mo.a, enc a.2.2.1), none, none, none]
@[reducible] def in_power_rest (a : Int × Int × Int × Unit) : S_power_rest := ⟨a.1, a.2.1, a.2.2.1, 0, 0, 0⟩
abbrev N_power_rest : List Str := ["number", "exponent", "by", "found", "square", "left"]
abbrev s_power_rest : Stmt := topS 24
theorem sc_power_rest : FnScope N_power_rest ["number", "exponent", "by"] (defScope s_power_rest) := ⟨rfl, rfl, rfl, by decide +kernel, rfl, by decide +kernel, by decide +kernel⟩
theorem ok_power_rest (T : Top K mg) : FnOk P w K mg base CX0 1 T.a_power_rest T.d_power_rest ["number", "exponent", "by"] (spF K N_power_rest 3 sa_power_rest .a (fun a => F_power_rest a.1 a.2.1 a.2.2.1)) := by
  have nd := sc_power_rest.nd
  refine fn_v (slE := sl_power_rest_1) (fb := fun a => fb_power_rest (in_power_rest a)) none T.F_power_rest sc_power_rest rfl (fun _ h => nomatch h) (.inl rfl) (fun _ => rfl) fun cdv A outer s H E hr => ?_
  exact (bv_wk (sl'' := sl_power_rest_1) (h := in_power_rest) (fun _ => Wk.refl _)
  (bv_cons (sl'' := sl_power_rest_3) (sv_set (i := 3) (fun (s : S_power_rest) t => { s with v_found := t }) (fun _ _ => rfl) nd (pv_mod (PV.ab pv_int) (PV.ab (pv_var (i := 2) (fun s : S_power_rest => s.v_by) (fun _ => rfl)))))
  (bv_cons (sl'' := sl_power_rest_2) (sv_set (i := 4) (fun (s : S_power_rest) t => { s with v_square := t }) (fun _ _ => rfl) nd (pv_mod (PV.ab (pv_var (i := 0) (fun s : S_power_rest => s.v_number) (fun _ => rfl))) (PV.ab (pv_var (i := 2) (fun s : S_power_rest => s.v_by) (fun _ => rfl)))))
  (bv_cons (sl'' := sl_power_rest_0) (sv_set (i := 5) (fun (s : S_power_rest) t => { s with v_left := t }) (fun _ _ => rfl) nd (pv_var (i := 1) (fun s : S_power_rest => s.v_exponent) (fun _ => rfl)))
  (bv_cons (sl'' := sl_power_rest_0) (sv_while (sl := sl_power_rest_0) FUEL PassesOwn.never (pb_cmp c_gt (PV.ab (pv_var (i := 5) (fun s : S_power_rest => s.v_left) (fun _ => rfl))) (PV.ab pv_int))
  (bv_cons (sl'' := sl_power_rest_0) (sv_if (pb_cmp c_eqS (PV.ab (pv_mod (PV.ab (pv_var (i := 5) (fun s : S_power_rest => s.v_left) (fun _ => rfl))) (PV.ab pv_int))) (PV.ab pv_int))
  (bv_cons (sl'' := sl_power_rest_0) (sv_set (i := 3) (fun (s : S_power_rest) t => { s with v_found := t }) (fun _ _ => rfl) nd (pv_mod (PV.ab (pv_mul (PV.ab (pv_var (i := 3) (fun s : S_power_rest => s.v_found) (fun _ => rfl))) (PV.ab (pv_var (i := 4) (fun s : S_power_rest => s.v_square) (fun _ => rfl))))) (PV.ab (pv_var (i := 2) (fun s : S_power_rest => s.v_by) (fun _ => rfl)))))
  (bv_nil (h := fun (s : S_power_rest) => (s : S_power_rest)) (fun _ => (.s (.s (.s (.s (.s (.s .nil)))))))))
  (bv_nil (h := fun (s : S_power_rest) => (s : S_power_rest)) (fun _ => (.s (.s (.s (.s (.s (.s .nil)))))))))
  (bv_cons (sl'' := sl_power_rest_0) (sv_set (i := 4) (fun (s : S_power_rest) t => { s with v_square := t }) (fun _ _ => rfl) nd (pv_mod (PV.ab (pv_mul (PV.ab (pv_var (i := 4) (fun s : S_power_rest => s.v_square) (fun _ => rfl))) (PV.ab (pv_var (i := 4) (fun s : S_power_rest => s.v_square) (fun _ => rfl))))) (PV.ab (pv_var (i := 2) (fun s : S_power_rest => s.v_by) (fun _ => rfl)))))
  (bv_cons (sl'' := sl_power_rest_0) (sv_set (i := 5) (fun (s : S_power_rest) t => { s with v_left := t }) (fun _ _ => rfl) nd (pv_div (PV.ab (pv_var (i := 5) (fun s : S_power_rest => s.v_left) (fun _ => rfl))) (PV.ab pv_int)))
  (bv_nil (h := fun (s : S_power_rest) => (s : S_power_rest)) (fun _ => (.s (.s (.s (.s (.s (.s .nil))))))))))))
  (bv_cons (sl'' := sl_power_rest_1) (sv_ret (pv_var (i := 3) (fun s : S_power_rest => s.v_found) (fun _ => rfl)))
  (bv_nil (sl := sl_power_rest_1) (h := fun s => s) (fun _ => Wk.refl _))))))))
/-! ## last_digits -/
structure S_last_digits where
  mk ::
  v_number : Int
  v_exponent : Int
  v_many : Int
  v_base : Int
  v_text : Tx
@[reducible] def sl_last_digits_0 (s : S_last_digits) : Sl := (fun s : S_last_digits => ([some (Mo.a, enc s.v_number), some (Mo.a, enc s.v_exponent), some (Mo.a, enc s.v_many), some (Mo.a, enc s.v_base), none] : Sl)) s
@[reducible] def sl_last_digits_1 (s : S_last_digits) : Sl := (fun s : S_last_digits => ([some (Mo.a, enc s.v_number), some (Mo.a, enc s.v_exponent), some (Mo.a, enc s.v_many), some (Mo.a, enc s.v_base), some (Mo.a, enc s.v_text)] : Sl)) s
def fb_last_digits (s : S_last_digits) : Option (Out S_last_digits Tx) :=
  seqO ((((some s.v_base).bind fun x138 => ((((some s.v_number).bind fun x133 => (some (0 : Int)).bind fun x134 => (some (1000000 : Int)).bind fun x135 => some (T3.mk x133 x134 x135)).bind fun x136 => (((some s.v_exponent).bind fun x128 => (some (0 : Int)).bind fun x129 => (some (1000000 : Int)).bind fun x130 => some (T3.mk x128 x129 x130)).bind fun x131 => (((some s.v_many).bind fun x123 => (some (1 : Int)).bind fun x124 => (some (20 : Int)).bind fun x125 => some (T3.mk x123 x124 x125)).bind fun x126 => (some ([] : List (T3 Int Int Int))).bind fun x127 => some (x126 :: x127)).bind fun x132 => some (x131 :: x132)).bind fun x137 => some (x136 :: x137)).bind fun x139 => (some ()).bind fun x140 => some (x139, x140)).bind fun x141 => some (x138, x141)).bind fun x142 => F_check_numbers x142.1 x142.2.1).bind fun _ => some (Out.nx (ρ := Tx) s)) fun s =>
  seqO ((((((some s.v_number).bind fun x184 => ((some s.v_exponent).bind fun x185 => ((((some s.v_base).bind fun x179 => ((some s.v_many).bind fun x180 => (some ()).bind fun x181 => some (x180, x181)).bind fun x182 => some (x179, x182)).bind fun x183 => F_power_of x183.1 x183.2.1).bind fun x186 => (some ()).bind fun x187 => some (x186, x187)).bind fun x188 => some (x185, x188)).bind fun x189 => some (x184, x189)).bind fun x190 => F_power_rest x190.1 x190.2.1 x190.2.2.1).bind fun x191 => ((some s.v_base).bind fun x192 => (some ()).bind fun x193 => some (x192, x193)).bind fun x194 => some (x191, x194)).bind fun x195 => F_write_of x195.1 x195.2.1).bind fun x196 => some (Out.nx (ρ := Tx) { s with v_text := x196 })) fun s =>
  seqO ((((some (⟨[48]⟩ : Tx)).bind fun x216 => ((some s.v_many).bind fun x214 => ((some s.v_text).bind fun x213 => if x213.cs.length ≤ sizeLine then some (x213.cs.length : Int) else none).bind fun x215 => some (x214 - x215)).bind fun x217 => tRep x216 x217).bind fun x218 => (some s.v_text).bind fun x219 => tCat x218 x219).bind fun x220 => some (Out.rt x220)) fun s =>
  some (Out.nx (ρ := Tx) s)
def F_last_digits (v_number : Int) (v_exponent : Int) (v_many : Int) (v_base : Int) : Option Tx := outF none (fb_last_digits (⟨v_number, v_exponent, v_many, v_base, ⟨[]⟩⟩ : S_last_digits))
@[reducible] def sa_last_digits (a : Int × Int × Int × Int × Unit) : Sl := [some (Mo.a, enc a.1), some (Mo.a, enc a.2.1), some (Mo.a, enc a.2.2.1), some (Mo.a, enc a.2.2.2.1), none]
@[reducible] def in_last_digits (a : Int × Int × Int × Int × Unit) : S_last_digits := ⟨a.1, a.2.1, a.2.2.1, a.2.2.2.1, ⟨[]⟩⟩
abbrev N_last_digits : List Str := ["number", "exponent", "many", "base", "text"]
abbrev s_last_digits : Stmt := topS 25
theorem sc_last_digits : FnScope N_last_digits ["number", "exponent", "many", "base"] (defScope s_last_digits) := ⟨rfl, rfl, rfl, by decide +kernel, rfl, by decide +kernel, by decide +kernel⟩
theorem ok_last_digits (T : Top K mg) : FnOk P w K mg base CX0 3 T.a_last_digits T.d_last_digits ["number", "exponent", "many", "base"] (spF K N_last_digits 4 sa_last_digits .a (fun a => F_last_digits a.1 a.2.1 a.2.2.1 a.2.2.2.1)) := by
  have nd := sc_last_digits.nd
  refine fn_v (slE := sl_last_digits_0) (fb := fun a => fb_last_digits (in_last_digits a)) none T.F_last_digits sc_last_digits rfl (fun _ h => nomatch h) (.inl rfl) (fun _ => rfl) fun cdv A outer s H E hr => ?_
  exact (bv_wk (sl'' := sl_last_digits_0) (h := in_last_digits) (fun _ => Wk.refl _)
  (bv_cons (sl'' := sl_last_digits_0) (sv_expr (pv_calla (ok_check_numbers T) (hr.mono (by decide)) (by rfl) T.m_check_numbers T.F_check_numbers.kp T.b_check_numbers (av_a (pv_var (i := 3) (fun s : S_last_digits => s.v_base) (fun _ => rfl)) (av_b (PV.fb (pv_lst (pal_cons (pv_tup3 (pv_var (i := 0) (fun s : S_last_digits => s.v_number) (fun _ => rfl)) pv_int (pv_gint (i := 1000000) (by rfl) T.c_MOST_NUMBER.choose_spec ⟨_, rfl⟩)) (pal_cons (pv_tup3 (pv_var (i := 1) (fun s : S_last_digits => s.v_exponent) (fun _ => rfl)) pv_int (pv_gint (i := 1000000) (by rfl) T.c_MOST_NUMBER.choose_spec ⟨_, rfl⟩)) (pal_cons (pv_tup3 (pv_var (i := 2) (fun s : S_last_digits => s.v_many) (fun _ => rfl)) pv_int (pv_gint (i := 20) (by rfl) T.c_MOST_LISTED.choose_spec ⟨_, rfl⟩)) (pal_nil (τ := (T3 Int Int Int)))))))) av_nil)) (fun _ => ⟨3, rfl, rfl⟩)))
  (bv_cons (sl'' := sl_last_digits_1) (sv_set (i := 4) (fun (s : S_last_digits) t => { s with v_text := t }) (fun _ _ => rfl) nd (pv_calla (ok_write_of T) (hr.mono (by decide)) (by rfl) T.m_write_of T.F_write_of.kp T.b_write_of (av_a (pv_calla (ok_power_rest T) (hr.mono (by decide)) (by rfl) T.m_power_rest T.F_power_rest.kp T.b_power_rest (av_a (pv_var (i := 0) (fun s : S_last_digits => s.v_number) (fun _ => rfl)) (av_a (pv_var (i := 1) (fun s : S_last_digits => s.v_exponent) (fun _ => rfl)) (av_a (pv_calla (ok_power_of T) (hr.mono (by decide)) (by rfl) T.m_power_of T.F_power_of.kp T.b_power_of (av_a (pv_var (i := 3) (fun s : S_last_digits => s.v_base) (fun _ => rfl)) (av_a (pv_var (i := 2) (fun s : S_last_digits => s.v_many) (fun _ => rfl)) av_nil)) (fun _ => ⟨2, rfl, rfl⟩)) av_nil))) (fun _ => ⟨3, rfl, rfl⟩)) (av_a (pv_var (i := 3) (fun s : S_last_digits => s.v_base) (fun _ => rfl)) av_nil)) (fun _ => ⟨1, rfl, rfl⟩)))
  (bv_cons (sl'' := sl_last_digits_0) (sv_ret (pv_catS (PV.ab (pv_repS (PV.ab (pv_str [48])) (PV.ab (pv_sub (PV.ab (pv_var (i := 2) (fun s : S_last_digits => s.v_many) (fun _ => rfl))) (PV.ab (pv_lenS (by rfl) T.z_len (PV.ab (pv_var (i := 4) (fun s : S_last_digits => s.v_text) (fun _ => rfl))))))))) (PV.ab (pv_var (i := 4) (fun s : S_last_digits => s.v_text) (fun _ => rfl)))))
  (bv_nil (sl := sl_last_digits_0) (h := fun s => s) (fun _ => Wk.refl _))))))
/-! ## read_of -/
structure S_read_of where
  mk ::
  v_text : Tx
  v_base : Int
  v_found : Int
  v_digit : Tx
@[reducible] def sl_read_of_0 (s : S_read_of) : Sl := (fun s : S_read_of => ([some (Mo.a, enc s.v_text), some (Mo.a, enc s.v_base), some (Mo.a, enc s.v_found), some (Mo.a, enc s.v_digit)] : Sl)) s
@[reducible] def sl_read_of_1 (s : S_read_of) : Sl := (fun s : S_read_of => ([some (Mo.a, enc s.v_text), some (Mo.a, enc s.v_base), some (Mo.a, enc s.v_found), none] : Sl)) s
@[reducible] def sl_read_of_2 (s : S_read_of) : Sl := (fun s : S_read_of => ([some (Mo.a, enc s.v_text), some (Mo.a, enc s.v_base), none, none] : Sl)) s
def lp_read_of_0 (s : S_read_of) : Option (Out S_read_of Int) :=
  seqO ((((some s.v_found).bind fun x46 => (some s.v_base).bind fun x47 => iMul x46 x47).bind fun x50 => ((some (⟨c_DIGITS_l⟩ : Tx)).bind fun x48 => (some s.v_digit).bind fun x49 => tIndex x48 x49).bind fun x51 => some (x50 + x51)).bind fun x52 => some (Out.nx (ρ := Int) { s with v_found := x52 })) fun s =>
  some (Out.nx (ρ := Int) { s with v_digit := ⟨[]⟩ })
def fb_read_of (s : S_read_of) : Option (Out S_read_of Int) :=
  seqO ((some (0 : Int)).bind fun x13 => some (Out.nx (ρ := Int) { s with v_found := x13 })) fun s =>
  seqO (((some s.v_text).bind fun x31 => some (x31.cs.map fun c => (⟨[c]⟩ : Tx))).bind fun x53 => forO (fun (s : S_read_of) (t : Tx) => { s with v_digit := t }) lp_read_of_0 x53 s) fun s =>
  seqO ((some s.v_found).bind fun x56 => some (Out.rt x56)) fun s =>
  some (Out.nx (ρ := Int) s)
def F_read_of (v_text : Tx) (v_base : Int) : Option Int := outF none (fb_read_of (⟨v_text, v_base, 0, ⟨[]⟩⟩ : S_read_of))
@[reducible] def sa_read_of (a : Tx × Int × Unit) : Sl := [some (Mo.a, enc a.1), some (Mo.a, enc a.2.1), none, none]
@[reducible] def in_read_of (a : Tx × Int × Unit) : S_read_of := ⟨a.1, a.2.1, 0, ⟨[]⟩⟩
abbrev N_read_of : List Str := ["text", "base", "found", "digit"]
abbrev s_read_of : Stmt := topS 14
theorem sc_read_of : FnScope N_read_of ["text", "base"] (defScope s_read_of) := ⟨rfl, rfl, rfl, by decide +kernel, rfl, by decide +kernel, by decide +kernel⟩
theorem ok_read_of (T : Top K mg) : FnOk P w K mg base CX0 1 T.a_read_of T.d_read_of ["text", "base"] (spF K N_read_of 2 sa_read_of .a (fun a => F_read_of a.1 a.2.1)) := by
  have nd := sc_read_of.nd
  refine fn_v (slE := sl_read_of_2) (fb := fun a => fb_read_of (in_read_of a)) none T.F_read_of sc_read_of rfl (fun _ h => nomatch h) (.inl rfl) (fun _ => rfl) fun cdv A outer s H E hr => ?_
  exact (bv_wk (sl'' := sl_read_of_2) (h := in_read_of) (fun _ => Wk.refl _)
  (bv_cons (sl'' := sl_read_of_1) (sv_set (i := 2) (fun (s : S_read_of) t => { s with v_found := t }) (fun _ _ => rfl) nd pv_int)
  (bv_cons (sl'' := sl_read_of_1) (sv_for (sl := sl_read_of_1) PassesOwn.never (piv_str (PV.ab (pv_var (i := 0) (fun s : S_read_of => s.v_text) (fun _ => rfl)))) (gv_name (i := 3) (slb := sl_read_of_0) (set := (fun (s : S_read_of) (t : Tx) => { s with v_digit := t })) (fun _ _ => rfl) nd)
  (bv_cons (sl'' := sl_read_of_0) (sv_set (i := 2) (fun (s : S_read_of) t => { s with v_found := t }) (fun _ _ => rfl) nd (pv_add (PV.ab (pv_mul (PV.ab (pv_var (i := 2) (fun s : S_read_of => s.v_found) (fun _ => rfl))) (PV.ab (pv_var (i := 1) (fun s : S_read_of => s.v_base) (fun _ => rfl))))) (PV.ab (pv_indexS (PV.ab (pv_gstr c_DIGITS_l (by rfl) T.c_DIGITS.choose_spec ⟨_, rfl⟩)) (PV.ab (pv_var (i := 3) (fun s : S_read_of => s.v_digit) (fun _ => rfl)))))))
  (bv_nil (h := fun (s : S_read_of) => ({ s with v_digit := ⟨[]⟩ } : S_read_of)) (fun _ => (.s (.s (.s (.d .nil))))))))
  (bv_cons (sl'' := sl_read_of_2) (sv_ret (pv_var (i := 2) (fun s : S_read_of => s.v_found) (fun _ => rfl)))
  (bv_nil (sl := sl_read_of_2) (h := fun s => s) (fun _ => Wk.refl _))))))
/-! ## part_of -/
structure S_part_of where
  mk ::
  v_ahead : Tx
  v_again : Tx
  v_base : Int
  v_k : Int
  v_text : Tx
  v_by : Int
  v__ : Tx
  v_nines : Int
@[reducible] def sl_part_of_0 (s : S_part_of) : Sl := (fun s : S_part_of => ([some (Mo.a, enc s.v_ahead), some (Mo.a, enc s.v_again), some (Mo.a, enc s.v_base), some (Mo.a, enc s.v_k), some (Mo.a, enc s.v_text), none, none, none, none] : Sl)) s
@[reducible] def sl_part_of_1 (s : S_part_of) : Sl := (fun s : S_part_of => ([some (Mo.a, enc s.v_ahead), some (Mo.a, enc s.v_again), some (Mo.a, enc s.v_base), some (Mo.a, enc s.v_k), none, none, none, none, none] : Sl)) s
@[reducible] def sl_part_of_2 (s : S_part_of) : Sl := (fun s : S_part_of => ([some (Mo.a, enc s.v_ahead), some (Mo.a, enc s.v_again), some (Mo.a, enc s.v_base), none, none, none, none, none, none] : Sl)) s
@[reducible] def sl_part_of_3 (s : S_part_of) : Sl := (fun s : S_part_of => ([some (Mo.a, enc s.v_ahead), some (Mo.a, enc s.v_again), some (Mo.a, enc s.v_base), none, none, some (Mo.a, enc s.v_by), some (Mo.a, enc s.v__), none, none] : Sl)) s
@[reducible] def sl_part_of_4 (s : S_part_of) : Sl := (fun s : S_part_of => ([some (Mo.a, enc s.v_ahead), some (Mo.a, enc s.v_again), some (Mo.a, enc s.v_base), none, none, some (Mo.a, enc s.v_by), none, none, none] : Sl)) s
@[reducible] def sl_part_of_5 (s : S_part_of) : Sl := (fun s : S_part_of => ([some (Mo.a, enc s.v_ahead), some (Mo.a, enc s.v_again), some (Mo.a, enc s.v_base), none, none, some (Mo.a, enc s.v_by), some (Mo.a, enc s.v__), some (Mo.a, enc s.v_nines), none] : Sl)) s
@[reducible] def sl_part_of_6 (s : S_part_of) : Sl := (fun s : S_part_of => ([some (Mo.a, enc s.v_ahead), some (Mo.a, enc s.v_again), some (Mo.a, enc s.v_base), none, none, some (Mo.a, enc s.v_by), none, some (Mo.a, enc s.v_nines), none] : Sl)) s
def lp_part_of_0 (s : S_part_of) : Option (Out S_part_of (T2 Int Int)) :=
  seqO (((((some s.v_text).bind fun x152 => if x152.cs.length ≤ sizeLine then some (x152.cs.length : Int) else none).bind fun x153 => (some (60 : Int)).bind fun x154 => some (decide (x153 > x154))).bind fun x166 => if x166 = true then some true else ((((some s.v_text).bind fun x155 => some (x155.cs.map fun c => (⟨[c]⟩ : Tx))).bind fun x162 => (lNew x162).bind fun x163 => compO (fun s : (S_part_of × Tx) => some true) (fun s : (S_part_of × Tx) => (some s.2).bind fun x160 => ((some (⟨c_DIGITS_l⟩ : Tx)).bind fun x157 => (some (none : Option Int)).bind fun x158 => ((some s.1.v_base).bind fun x156 => some (some x156)).bind fun x159 => cutT x157 x158 x159).bind fun x161 => tIn x160 x161) (fun t : Tx => ((s, t) : (S_part_of × Tx))) x163).bind fun x164 => some (x164.all id)).bind fun x165 => some (!x165)).bind fun x167 => if x167 = true then
  (seqO (none) fun s =>
  some (Out.nx (ρ := (T2 Int Int)) s))
  else some (Out.nx (ρ := (T2 Int Int)) s)) fun s =>
  some (Out.nx (ρ := (T2 Int Int)) { s with v_k := 0, v_text := ⟨[]⟩ })
def lp_part_of_1 (s : S_part_of) : Option (Out S_part_of (T2 Int Int)) :=
  seqO (((some s.v_by).bind fun x188 => (some s.v_base).bind fun x189 => iMul x188 x189).bind fun x190 => some (Out.nx (ρ := (T2 Int Int)) { s with v_by := x190 })) fun s =>
  some (Out.nx (ρ := (T2 Int Int)) { s with v__ := ⟨[]⟩ })
def lp_part_of_2 (s : S_part_of) : Option (Out S_part_of (T2 Int Int)) :=
  seqO (((some s.v_nines).bind fun x262 => (some s.v_base).bind fun x263 => iMul x262 x263).bind fun x264 => some (Out.nx (ρ := (T2 Int Int)) { s with v_nines := x264 })) fun s =>
  some (Out.nx (ρ := (T2 Int Int)) { s with v__ := ⟨[]⟩ })
def fb_part_of (s : S_part_of) : Option (Out S_part_of (T2 Int Int)) :=
  seqO ((((some s.v_base).bind fun x77 => (some ()).bind fun x78 => some (x77, x78)).bind fun x79 => F_check_base x79.1).bind fun _ => some (Out.nx (ρ := (T2 Int Int)) s)) fun s =>
  seqO ((((some s.v_ahead).bind fun x119 => (some s.v_again).bind fun x120 => some (T2.mk x119 x120)).bind fun x121 => some ([x121.a, x121.b].zipIdx.map fun q => T2.mk (q.2 : Int) q.1)).bind fun x168 => forO (fun (s : S_part_of) (t : (T2 Int Tx)) => { ({ s with v_k := t.a }) with v_text := t.b }) lp_part_of_0 x168 s) fun s =>
  seqO ((some (1 : Int)).bind fun x171 => some (Out.nx (ρ := (T2 Int Int)) { s with v_by := x171 })) fun s =>
  seqO (((some s.v_ahead).bind fun x181 => some (x181.cs.map fun c => (⟨[c]⟩ : Tx))).bind fun x191 => forO (fun (s : S_part_of) (t : Tx) => { s with v__ := t }) lp_part_of_1 x191 s) fun s =>
  seqO (((some s.v_again).bind fun x207 => (some (⟨[]⟩ : Tx)).bind fun x208 => some (decide (x207 = x208))).bind fun x242 => if x242 = true then
  (seqO ((((((some s.v_ahead).bind fun x231 => ((some s.v_base).bind fun x232 => (some ()).bind fun x233 => some (x232, x233)).bind fun x234 => some (x231, x234)).bind fun x235 => F_read_of x235.1 x235.2.1).bind fun x236 => ((some s.v_by).bind fun x237 => (some ()).bind fun x238 => some (x237, x238)).bind fun x239 => some (x236, x239)).bind fun x240 => F_fraction x240.1 x240.2.1).bind fun x241 => some (Out.rt x241)) fun s =>
  some (Out.nx (ρ := (T2 Int Int)) s))
  else some (Out.nx (ρ := (T2 Int Int)) s)) fun s =>
  seqO ((some (1 : Int)).bind fun x245 => some (Out.nx (ρ := (T2 Int Int)) { s with v_nines := x245 })) fun s =>
  seqO (((some s.v_again).bind fun x255 => some (x255.cs.map fun c => (⟨[c]⟩ : Tx))).bind fun x265 => forO (fun (s : S_part_of) (t : Tx) => { s with v__ := t }) lp_part_of_2 x265 s) fun s =>
  seqO ((((((((some s.v_ahead).bind fun x318 => ((some s.v_base).bind fun x319 => (some ()).bind fun x320 => some (x319, x320)).bind fun x321 => some (x318, x321)).bind fun x322 => F_read_of x322.1 x322.2.1).bind fun x325 => ((some s.v_nines).bind fun x323 => (some (1 : Int)).bind fun x324 => some (x323 - x324)).bind fun x326 => iMul x325 x326).bind fun x332 => (((some s.v_again).bind fun x327 => ((some s.v_base).bind fun x328 => (some ()).bind fun x329 => some (x328, x329)).bind fun x330 => some (x327, x330)).bind fun x331 => F_read_of x331.1 x331.2.1).bind fun x333 => some (x332 + x333)).bind fun x338 => (((some s.v_by).bind fun x336 => ((some s.v_nines).bind fun x334 => (some (1 : Int)).bind fun x335 => some (x334 - x335)).bind fun x337 => iMul x336 x337).bind fun x339 => (some ()).bind fun x340 => some (x339, x340)).bind fun x341 => some (x338, x341)).bind fun x342 => F_fraction x342.1 x342.2.1).bind fun x343 => some (Out.rt x343)) fun s =>
  some (Out.nx (ρ := (T2 Int Int)) s)
def F_part_of (v_ahead : Tx) (v_again : Tx) (v_base : Int) : Option (T2 Int Int) := outF none (fb_part_of (⟨v_ahead, v_again, v_base, 0, ⟨[]⟩, 0, ⟨[]⟩, 0⟩ : S_part_of))
@[reducible] def sa_part_of (a : Tx × Tx × Int × Unit) : Sl := [some (Mo.a, enc a.1), some (Mo.a, enc a.2.1), some (Mo.a, enc a.2.2.1), none, none, none, none, none, none]
@[reducible] def in_part_of (a : Tx × Tx × Int × Unit) : S_part_of := ⟨a.1, a.2.1, a.2.2.1, 0, ⟨[]⟩, 0, ⟨[]⟩, 0⟩
abbrev N_part_of : List Str := ["ahead", "again", "base", "k", "text", "by", "_", "nines", "sign"]
abbrev s_part_of : Stmt := topS 44
theorem sc_part_of : FnScope N_part_of ["ahead", "again", "base"] (defScope s_part_of) := ⟨rfl, rfl, rfl, by decide +kernel, rfl, by decide +kernel, by decide +kernel⟩
theorem ok_part_of (T : Top K mg) : FnOk P w K mg base CX0 2 T.a_part_of T.d_part_of ["ahead", "again", "base"] (spF K N_part_of 3 sa_part_of .a (fun a => F_part_of a.1 a.2.1 a.2.2.1)) := by
  have nd := sc_part_of.nd
  refine fn_v (slE := sl_part_of_2) (fb := fun a => fb_part_of (in_part_of a)) none T.F_part_of sc_part_of rfl (fun _ h => nomatch h) (.inl rfl) (fun _ => rfl) fun cdv A outer s H E hr => ?_
  exact (bv_wk (sl'' := sl_part_of_2) (h := in_part_of) (fun _ => Wk.refl _)
  (bv_cons (sl'' := sl_part_of_2) (sv_expr (pv_calla (ok_check_base T) (hr.mono (by decide)) (by rfl) T.m_check_base T.F_check_base.kp T.b_check_base (av_a (pv_var (i := 2) (fun s : S_part_of => s.v_base) (fun _ => rfl)) av_nil) (fun _ => ⟨0, rfl, rfl⟩)))
  (bv_cons (sl'' := sl_part_of_2) (sv_for (sl := sl_part_of_2) PassesOwn.never (piv_enumT (fun t : (T2 Tx Tx) => [t.a, t.b]) (fun _ => rfl) (by rfl) T.z_enumerate (PV.ab (pv_tup2 (pv_var (i := 0) (fun s : S_part_of => s.v_ahead) (fun _ => rfl)) (pv_var (i := 1) (fun s : S_part_of => s.v_again) (fun _ => rfl))))) (gv_tup (fun t : (T2 Int Tx) => [enc t.a, enc t.b]) (fun _ => rfl) (fun _ => rfl) (gvs_cons (p1 := fun t : (T2 Int Tx) => t.a) (p2 := fun t : (T2 Int Tx) => t) (gv_name (i := 3) (slb := sl_part_of_1) (set := fun (s : S_part_of) (t : Int) => { s with v_k := t }) (fun _ _ => rfl) nd) (gvs_cons (p1 := fun t : (T2 Int Tx) => t.b) (p2 := fun t : (T2 Int Tx) => t) (gv_name (i := 4) (slb := sl_part_of_0) (set := fun (s : S_part_of) (t : Tx) => { s with v_text := t }) (fun _ _ => rfl) nd) gvs_nil)))
  (bv_cons (sl'' := sl_part_of_0) (sv_if (PBw.pb (pb_or (pb_cmp c_gt (PV.ab (pv_lenS (by rfl) T.z_len (PV.ab (pv_var (i := 4) (fun s : S_part_of => s.v_text) (fun _ => rfl))))) (PV.ab (pv_gint (i := 60) (by rfl) T.c_MOST_DIGITS.choose_spec ⟨_, rfl⟩))) (pb_or1 (pb_not (pv_val (pv_all (by rfl) T.z_all (PV.fb (pv_lc (own := [("sign", 8)]) (js := [8]) (slb := (fun s : (S_part_of × Tx) => ([some (Mo.a, enc s.1.v_ahead), some (Mo.a, enc s.1.v_again), some (Mo.a, enc s.1.v_base), some (Mo.a, enc s.1.v_k), some (Mo.a, enc s.1.v_text), none, none, none, some (Mo.a, enc s.2)] : Sl))) (set := fun (g : S_part_of) (t : Tx) => ((g, t) : (S_part_of × Tx))) nd (IV.ab (piv_str (PV.ab (pv_var (i := 4) (fun s : S_part_of => s.v_text) (fun _ => rfl))))) (blkOk_by (N := N_part_of) (sc := defScope s_part_of) (by decide +kernel)) (by decide) (fun _ _ _ _ _ => (gv_name (i := 8) (fun _ _ => rfl) nd)) (fun _ _ _ _ _ => pbs_nil) (fun _ _ _ _ _ => (pv_cmp c_inT (PV.ab (pv_var (i := 8) (fun s : (S_part_of × Tx) => s.2) (fun _ => rfl))) (PV.ab (pv_slS (PV.ab (pv_gstr c_DIGITS_l (by rfl) T.c_DIGITS.choose_spec ⟨_, rfl⟩)) pvo_none (pvo_some (PV.ab (pv_var (i := 2) (fun s : (S_part_of × Tx) => s.1.v_base) (fun _ => rfl))))))))))))))))
  (bv_cons (sl'' := sl_part_of_0) sv_never
  (bv_nil (sl := sl_part_of_0) (h := fun s => s) (fun _ => Wk.refl _)))
  (bv_nil (h := fun (s : S_part_of) => (s : S_part_of)) (fun _ => (.s (.s (.s (.s (.s (.s (.s (.s (.s .nil))))))))))))
  (bv_nil (h := fun (s : S_part_of) => ({ s with v_k := 0, v_text := ⟨[]⟩ } : S_part_of)) (fun _ => (.s (.s (.s (.d (.d (.s (.s (.s (.s .nil)))))))))))))
  (bv_cons (sl'' := sl_part_of_4) (sv_set (i := 5) (fun (s : S_part_of) t => { s with v_by := t }) (fun _ _ => rfl) nd pv_int)
  (bv_cons (sl'' := sl_part_of_4) (sv_for (sl := sl_part_of_4) PassesOwn.never (piv_str (PV.ab (pv_var (i := 0) (fun s : S_part_of => s.v_ahead) (fun _ => rfl)))) (gv_name (i := 6) (slb := sl_part_of_3) (set := (fun (s : S_part_of) (t : Tx) => { s with v__ := t })) (fun _ _ => rfl) nd)
  (bv_cons (sl'' := sl_part_of_3) (sv_set (i := 5) (fun (s : S_part_of) t => { s with v_by := t }) (fun _ _ => rfl) nd (pv_mul (PV.ab (pv_var (i := 5) (fun s : S_part_of => s.v_by) (fun _ => rfl))) (PV.ab (pv_var (i := 2) (fun s : S_part_of => s.v_base) (fun _ => rfl)))))
  (bv_nil (h := fun (s : S_part_of) => ({ s with v__ := ⟨[]⟩ } : S_part_of)) (fun _ => (.s (.s (.s (.s (.s (.s (.d (.s (.s .nil)))))))))))))
  (bv_cons (sl'' := sl_part_of_4) (sv_if (pb_cmp c_eqS (PV.ab (pv_var (i := 1) (fun s : S_part_of => s.v_again) (fun _ => rfl))) (PV.ab (pv_str [])))
  (bv_cons (sl'' := sl_part_of_4) (sv_ret (pv_calla (ok_fraction T) (hr.mono (by decide)) (by rfl) T.m_fraction T.F_fraction.kp T.b_fraction (av_a (pv_calla (ok_read_of T) (hr.mono (by decide)) (by rfl) T.m_read_of T.F_read_of.kp T.b_read_of (av_a (pv_var (i := 0) (fun s : S_part_of => s.v_ahead) (fun _ => rfl)) (av_a (pv_var (i := 2) (fun s : S_part_of => s.v_base) (fun _ => rfl)) av_nil)) (fun _ => ⟨2, rfl, rfl⟩)) (av_a (pv_var (i := 5) (fun s : S_part_of => s.v_by) (fun _ => rfl)) av_nil)) (fun _ => ⟨1, rfl, rfl⟩)))
  (bv_nil (sl := sl_part_of_4) (h := fun s => s) (fun _ => Wk.refl _)))
  (bv_nil (h := fun (s : S_part_of) => (s : S_part_of)) (fun _ => (.s (.s (.s (.s (.s (.s (.s (.s (.s .nil))))))))))))
  (bv_cons (sl'' := sl_part_of_6) (sv_set (i := 7) (fun (s : S_part_of) t => { s with v_nines := t }) (fun _ _ => rfl) nd pv_int)
  (bv_cons (sl'' := sl_part_of_6) (sv_for (sl := sl_part_of_6) PassesOwn.never (piv_str (PV.ab (pv_var (i := 1) (fun s : S_part_of => s.v_again) (fun _ => rfl)))) (gv_name (i := 6) (slb := sl_part_of_5) (set := (fun (s : S_part_of) (t : Tx) => { s with v__ := t })) (fun _ _ => rfl) nd)
  (bv_cons (sl'' := sl_part_of_5) (sv_set (i := 7) (fun (s : S_part_of) t => { s with v_nines := t }) (fun _ _ => rfl) nd (pv_mul (PV.ab (pv_var (i := 7) (fun s : S_part_of => s.v_nines) (fun _ => rfl))) (PV.ab (pv_var (i := 2) (fun s : S_part_of => s.v_base) (fun _ => rfl)))))
  (bv_nil (h := fun (s : S_part_of) => ({ s with v__ := ⟨[]⟩ } : S_part_of)) (fun _ => (.s (.s (.s (.s (.s (.s (.d (.s (.s .nil)))))))))))))
  (bv_cons (sl'' := sl_part_of_2) (sv_ret (pv_calla (ok_fraction T) (hr.mono (by decide)) (by rfl) T.m_fraction T.F_fraction.kp T.b_fraction (av_a (pv_add (PV.ab (pv_mul (PV.ab (pv_calla (ok_read_of T) (hr.mono (by decide)) (by rfl) T.m_read_of T.F_read_of.kp T.b_read_of (av_a (pv_var (i := 0) (fun s : S_part_of => s.v_ahead) (fun _ => rfl)) (av_a (pv_var (i := 2) (fun s : S_part_of => s.v_base) (fun _ => rfl)) av_nil)) (fun _ => ⟨2, rfl, rfl⟩))) (PV.ab (pv_sub (PV.ab (pv_var (i := 7) (fun s : S_part_of => s.v_nines) (fun _ => rfl))) (PV.ab pv_int))))) (PV.ab (pv_calla (ok_read_of T) (hr.mono (by decide)) (by rfl) T.m_read_of T.F_read_of.kp T.b_read_of (av_a (pv_var (i := 1) (fun s : S_part_of => s.v_again) (fun _ => rfl)) (av_a (pv_var (i := 2) (fun s : S_part_of => s.v_base) (fun _ => rfl)) av_nil)) (fun _ => ⟨2, rfl, rfl⟩)))) (av_a (pv_mul (PV.ab (pv_var (i := 5) (fun s : S_part_of => s.v_by) (fun _ => rfl))) (PV.ab (pv_sub (PV.ab (pv_var (i := 7) (fun s : S_part_of => s.v_nines) (fun _ => rfl))) (PV.ab pv_int)))) av_nil)) (fun _ => ⟨1, rfl, rfl⟩)))
  (bv_nil (sl := sl_part_of_2) (h := fun s => s) (fun _ => Wk.refl _)))))))))))
/-! ## law -/
structure S_law where
  mk ::
  v_script : (List Int)
  v_draws : (List Int)
  v_turn : Int
  v_base : Int
  v_many : Int
  v_by : Int
  v_step : Int
  v_number : Int
  v_ahead : Int
  v_again : Int
  v_done : Bool
  v_one : Tx
  v_two : Tx
@[reducible] def sl_law_0 (s : S_law) : Sl := (fun s : S_law => ([some (Mo.b, enc s.v_script), some (Mo.a, enc s.v_draws), some (Mo.a, enc s.v_turn), some (Mo.a, enc s.v_base), some (Mo.a, enc s.v_many), some (Mo.a, enc s.v_by), none, some (Mo.a, enc s.v_number), some (Mo.a, enc s.v_ahead), none, none, none, none] : Sl)) s
@[reducible] def sl_law_1 (s : S_law) : Sl := (fun s : S_law => ([some (Mo.b, enc s.v_script), some (Mo.a, enc s.v_draws), some (Mo.a, enc s.v_turn), some (Mo.a, enc s.v_base), some (Mo.a, enc s.v_many), some (Mo.a, enc s.v_by), none, some (Mo.a, enc s.v_number), some (Mo.a, enc s.v_ahead), some (Mo.a, enc s.v_again), none, none, none] : Sl)) s
@[reducible] def sl_law_2 (s : S_law) : Sl := (fun s : S_law => ([some (Mo.b, enc s.v_script), some (Mo.a, enc s.v_draws), some (Mo.a, enc s.v_turn), some (Mo.a, enc s.v_base), some (Mo.a, enc s.v_many), some (Mo.a, enc s.v_by), none, some (Mo.a, enc s.v_number), some (Mo.a, enc s.v_ahead), some (Mo.a, enc s.v_again), some (Mo.a, enc s.v_done), some (Mo.a, enc s.v_one), none] : Sl)) s
@[reducible] def sl_law_3 (s : S_law) : Sl := (fun s : S_law => ([some (Mo.b, enc s.v_script), some (Mo.a, enc s.v_draws), some (Mo.a, enc s.v_turn), some (Mo.a, enc s.v_base), some (Mo.a, enc s.v_many), some (Mo.a, enc s.v_by), none, some (Mo.a, enc s.v_number), some (Mo.a, enc s.v_ahead), some (Mo.a, enc s.v_again), some (Mo.a, enc s.v_done), some (Mo.a, enc s.v_one), some (Mo.a, enc s.v_two)] : Sl)) s
@[reducible] def sl_law_4 (s : S_law) : Sl := (fun s : S_law => ([some (Mo.b, enc s.v_script), some (Mo.a, enc s.v_draws), some (Mo.a, enc s.v_turn), some (Mo.a, enc s.v_base), some (Mo.a, enc s.v_many), some (Mo.a, enc s.v_by), some (Mo.a, enc s.v_step), none, none, none, none, none, none] : Sl)) s
@[reducible] def sl_law_5 (s : S_law) : Sl := (fun s : S_law => ([some (Mo.b, enc s.v_script), some (Mo.a, enc s.v_draws), some (Mo.a, enc s.v_turn), some (Mo.a, enc s.v_base), some (Mo.a, enc s.v_many), some (Mo.a, enc s.v_by), none, none, none, none, none, none, none] : Sl)) s
@[reducible] def sl_law_6 (s : S_law) : Sl := (fun s : S_law => ([some (Mo.b, enc s.v_script), some (Mo.a, enc s.v_draws), some (Mo.a, enc s.v_turn), some (Mo.a, enc s.v_base), some (Mo.a, enc s.v_many), some (Mo.a, enc s.v_by), none, some (Mo.a, enc s.v_number), some (Mo.a, enc s.v_ahead), some (Mo.a, enc s.v_again), some (Mo.a, enc s.v_done), none, none] : Sl)) s
@[reducible] def sl_law_7 (s : S_law) : Sl := (fun s : S_law => ([some (Mo.b, enc s.v_script), some (Mo.a, enc s.v_draws), some (Mo.a, enc s.v_turn), some (Mo.a, enc s.v_base), some (Mo.a, enc s.v_many), some (Mo.a, enc s.v_by), none, some (Mo.a, enc s.v_number), none, none, none, none, none] : Sl)) s
@[reducible] def sl_law_8 (s : S_law) : Sl := (fun s : S_law => ([some (Mo.b, enc s.v_script), some (Mo.a, enc s.v_draws), some (Mo.a, enc s.v_turn), some (Mo.a, enc s.v_base), some (Mo.a, enc s.v_many), none, none, none, none, none, none, none, none] : Sl)) s
@[reducible] def sl_law_9 (s : S_law) : Sl := (fun s : S_law => ([some (Mo.b, enc s.v_script), some (Mo.a, enc s.v_draws), some (Mo.a, enc s.v_turn), some (Mo.a, enc s.v_base), none, none, none, none, none, none, none, none, none] : Sl)) s
@[reducible] def sl_law_10 (s : S_law) : Sl := (fun s : S_law => ([some (Mo.b, enc s.v_script), some (Mo.a, enc s.v_draws), some (Mo.a, enc s.v_turn), none, none, none, none, none, none, none, none, none, none] : Sl)) s
@[reducible] def sl_law_11 (s : S_law) : Sl := (fun s : S_law => ([some (Mo.b, enc s.v_script), some (Mo.a, enc s.v_draws), none, none, none, none, none, none, none, none, none, none, none] : Sl)) s
@[reducible] def sl_law_12 (s : S_law) : Sl := (fun s : S_law => ([some (Mo.b, enc s.v_script), none, none, none, none, none, none, none, none, none, none, none, none] : Sl)) s
def lp_law_0 (s : S_law) : Option (Out S_law Bool) :=
  seqO (((some s.v_by).bind fun x686 => (some s.v_base).bind fun x687 => iMul x686 x687).bind fun x688 => some (Out.nx (ρ := Bool) { s with v_by := x688 })) fun s =>
  some (Out.nx (ρ := Bool) { s with v_step := 0 })
def lp_law_1 (s : S_law) : Option (Out S_law Bool) :=
  seqO (((some (2 : Int)).bind fun x620 => (((some s.v_draws).bind fun x613 => ((some s.v_turn).bind fun x614 => ((some (11 : Int)).bind fun x615 => (some ()).bind fun x616 => some (x615, x616)).bind fun x617 => some (x614, x617)).bind fun x618 => some (x613, x618)).bind fun x619 => F__law_mix x619.1 x619.2.1 x619.2.2.1).bind fun x621 => some (x620 + x621)).bind fun x622 => some (Out.nx (ρ := Bool) { s with v_base := x622 })) fun s =>
  seqO (((some (1 : Int)).bind fun x656 => (((some s.v_draws).bind fun x649 => (((some (5 : Int)).bind fun x647 => (some s.v_turn).bind fun x648 => some (x647 + x648)).bind fun x650 => ((some (3 : Int)).bind fun x651 => (some ()).bind fun x652 => some (x651, x652)).bind fun x653 => some (x650, x653)).bind fun x654 => some (x649, x654)).bind fun x655 => F__law_mix x655.1 x655.2.1 x655.2.2.1).bind fun x657 => some (x656 + x657)).bind fun x658 => some (Out.nx (ρ := Bool) { s with v_many := x658 })) fun s =>
  seqO ((some s.v_base).bind fun x661 => some (Out.nx (ρ := Bool) { s with v_by := x661 })) fun s =>
  seqO ((((some s.v_many).bind fun x677 => (some (1 : Int)).bind fun x678 => some (x677 - x678)).bind fun x679 => rng1 x679).bind fun x689 => forO (fun (s : S_law) (t : Int) => { s with v_step := t }) lp_law_0 x689 s) fun s =>
  seqO (((some s.v_by).bind fun x696 => (some (1000 : Int)).bind fun x697 => some (decide (x696 > x697))).bind fun x704 => if x704 = true then
  (seqO ((some (1 : Int)).bind fun x702 => (some s.v_base).bind fun x703 => some (Out.nx (ρ := Bool) { s with v_many := x702, v_by := x703 })) fun s =>
  some (Out.nx (ρ := Bool) s))
  else some (Out.nx (ρ := Bool) s)) fun s =>
  seqO (((some (2 : Int)).bind fun x738 => (((some s.v_draws).bind fun x731 => (((some (10 : Int)).bind fun x729 => (some s.v_turn).bind fun x730 => some (x729 + x730)).bind fun x732 => ((some (35 : Int)).bind fun x733 => (some ()).bind fun x734 => some (x733, x734)).bind fun x735 => some (x732, x735)).bind fun x736 => some (x731, x736)).bind fun x737 => F__law_mix x737.1 x737.2.1 x737.2.2.1).bind fun x739 => some (x738 + x739)).bind fun x740 => some (Out.nx (ρ := Bool) { s with v_number := x740 })) fun s =>
  seqO (((((some (1 : Int)).bind fun x757 => (some s.v_by).bind fun x758 => some (T2.mk x757 x758)).bind fun x759 => ((some s.v_number).bind fun x760 => (some ()).bind fun x761 => some (x760, x761)).bind fun x762 => some (x759, x762)).bind fun x763 => F_lengths x763.1 x763.2.1).bind fun x764 => some (Out.nx (ρ := Bool) ((fun (s : S_law) (t : (T2 Int Int)) => { ({ s with v_ahead := t.a }) with v_again := t.b }) s x764))) fun s =>
  seqO (((((some s.v_number).bind fun x792 => ((some s.v_many).bind fun x793 => ((some s.v_base).bind fun x794 => (some ()).bind fun x795 => some (x794, x795)).bind fun x796 => some (x793, x796)).bind fun x797 => some (x792, x797)).bind fun x798 => F_comes_again x798.1 x798.2.1 x798.2.2.1).bind fun x803 => ((some s.v_ahead).bind fun x801 => ((some (1 : Int)).bind fun x799 => (some s.v_again).bind fun x800 => some (max x799 x800)).bind fun x802 => some (T2.mk x801 x802)).bind fun x804 => dNe x803 x804).bind fun x808 => if x808 = true then
  (seqO ((some false).bind fun x807 => some (Out.rt x807)) fun s =>
  some (Out.nx (ρ := Bool) s))
  else some (Out.nx (ρ := Bool) s)) fun s =>
  seqO (((((some (1 : Int)).bind fun x825 => (some s.v_by).bind fun x826 => some (T2.mk x825 x826)).bind fun x827 => ((some s.v_number).bind fun x828 => (some ()).bind fun x829 => some (x828, x829)).bind fun x830 => some (x827, x830)).bind fun x831 => F_ends x831.1 x831.2.1).bind fun x832 => some (Out.nx (ρ := Bool) { s with v_done := x832 })) fun s =>
  seqO ((((some s.v_done).bind fun x893 => ((((some s.v_number).bind fun x880 => (((some s.v_ahead).bind fun x878 => (some (3 : Int)).bind fun x879 => some (x878 + x879)).bind fun x881 => ((some s.v_many).bind fun x882 => ((some s.v_base).bind fun x883 => (some ()).bind fun x884 => some (x883, x884)).bind fun x885 => some (x882, x885)).bind fun x886 => some (x881, x886)).bind fun x887 => some (x880, x887)).bind fun x888 => F_last_digits x888.1 x888.2.1 x888.2.2.1 x888.2.2.2.1).bind fun x891 => ((some (⟨[48]⟩ : Tx)).bind fun x889 => (some s.v_many).bind fun x890 => tRep x889 x890).bind fun x892 => some (decide (x891 = x892))).bind fun x894 => some (!decide (x893 = x894))).bind fun x899 => if x899 = true then some true else (some s.v_done).bind fun x897 => ((some s.v_again).bind fun x895 => (some (0 : Int)).bind fun x896 => some (decide (x895 = x896))).bind fun x898 => some (!decide (x897 = x898))).bind fun x903 => if x903 = true then
  (seqO ((some false).bind fun x902 => some (Out.rt x902)) fun s =>
  some (Out.nx (ρ := Bool) s))
  else some (Out.nx (ρ := Bool) s)) fun s =>
  seqO (((((some (1 : Int)).bind fun x920 => (some s.v_by).bind fun x921 => some (T2.mk x920 x921)).bind fun x922 => ((some s.v_number).bind fun x923 => (some ()).bind fun x924 => some (x923, x924)).bind fun x925 => some (x922, x925)).bind fun x926 => F_digits x926.1 x926.2.1).bind fun x927 => some (Out.nx (ρ := Bool) ((fun (s : S_law) (t : (T2 Tx Tx)) => { ({ s with v_one := t.a }) with v_two := t.b }) s x927))) fun s =>
  seqO (((((some s.v_one).bind fun x983 => if x983.cs.length ≤ sizeLine then some (x983.cs.length : Int) else none).bind fun x984 => (some s.v_ahead).bind fun x985 => some (!decide (x984 = x985))).bind fun x1009 => if x1009 = true then some true else (((some s.v_two).bind fun x986 => if x986.cs.length ≤ sizeLine then some (x986.cs.length : Int) else none).bind fun x987 => (some s.v_again).bind fun x988 => some (!decide (x987 = x988))).bind fun x1008 => if x1008 = true then some true else (((some s.v_one).bind fun x989 => if x989.cs.length ≤ sizeLine then some (x989.cs.length : Int) else none).bind fun x990 => (some (61 : Int)).bind fun x991 => some (decide (x990 < x991))).bind fun x1007 => if x1007 = true then (((some s.v_two).bind fun x992 => if x992.cs.length ≤ sizeLine then some (x992.cs.length : Int) else none).bind fun x993 => (some (61 : Int)).bind fun x994 => some (decide (x993 < x994))).bind fun x1006 => if x1006 = true then (((some s.v_one).bind fun x995 => ((some s.v_two).bind fun x996 => ((some s.v_number).bind fun x997 => (some ()).bind fun x998 => some (x997, x998)).bind fun x999 => some (x996, x999)).bind fun x1000 => some (x995, x1000)).bind fun x1001 => F_part_of x1001.1 x1001.2.1 x1001.2.2.1).bind fun x1004 => ((some (1 : Int)).bind fun x1002 => (some s.v_by).bind fun x1003 => some (T2.mk x1002 x1003)).bind fun x1005 => dNe x1004 x1005 else some false else some false).bind fun x1013 => if x1013 = true then
  (seqO ((some false).bind fun x1012 => some (Out.rt x1012)) fun s =>
  some (Out.nx (ρ := Bool) s))
  else some (Out.nx (ρ := Bool) s)) fun s =>
  seqO (((((((some (1 : Int)).bind fun x1089 => (some s.v_by).bind fun x1090 => some (T2.mk x1089 x1090)).bind fun x1091 => (some ()).bind fun x1092 => some (x1091, x1092)).bind fun x1093 => F_greedy x1093.1).bind fun x1096 => ((some s.v_by).bind fun x1094 => (some ([] : List Int)).bind fun x1095 => some (x1094 :: x1095)).bind fun x1097 => dNe x1096 x1097).bind fun x1125 => if x1125 = true then some true else (((((some (1 : Int)).bind fun x1098 => (some s.v_by).bind fun x1099 => some (T2.mk x1098 x1099)).bind fun x1102 => (((some s.v_by).bind fun x1100 => (some ([] : List Int)).bind fun x1101 => some (x1100 :: x1101)).bind fun x1103 => (some ()).bind fun x1104 => some (x1103, x1104)).bind fun x1105 => some (x1102, x1105)).bind fun x1106 => F_is_sum x1106.1 x1106.2.1).bind fun x1107 => (some true).bind fun x1108 => some (!decide (x1107 = x1108))).bind fun x1124 => if x1124 = true then some true else ((((some (1 : Int)).bind fun x1109 => (some s.v_by).bind fun x1110 => some (T2.mk x1109 x1110)).bind fun x1117 => ((((some s.v_by).bind fun x1113 => (some (1 : Int)).bind fun x1114 => some (x1113 + x1114)).bind fun x1115 => (some ([] : List Int)).bind fun x1116 => some (x1115 :: x1116)).bind fun x1118 => (some ()).bind fun x1119 => some (x1118, x1119)).bind fun x1120 => some (x1117, x1120)).bind fun x1121 => F_is_sum x1121.1 x1121.2.1).bind fun x1122 => (some false).bind fun x1123 => some (!decide (x1122 = x1123))).bind fun x1129 => if x1129 = true then
  (seqO ((some false).bind fun x1128 => some (Out.rt x1128)) fun s =>
  some (Out.nx (ρ := Bool) s))
  else some (Out.nx (ρ := Bool) s)) fun s =>
  seqO ((((((some s.v_by).bind fun x1165 => ((some s.v_base).bind fun x1166 => (some ()).bind fun x1167 => some (x1166, x1167)).bind fun x1168 => some (x1165, x1168)).bind fun x1169 => F_zeros x1169.1 x1169.2.1).bind fun x1170 => (some s.v_many).bind fun x1171 => some (!decide (x1170 = x1171))).bind fun x1181 => if x1181 = true then some true else ((((some s.v_by).bind fun x1172 => (some (1 : Int)).bind fun x1173 => some (x1172 + x1173)).bind fun x1174 => ((some s.v_base).bind fun x1175 => (some ()).bind fun x1176 => some (x1175, x1176)).bind fun x1177 => some (x1174, x1177)).bind fun x1178 => F_zeros x1178.1 x1178.2.1).bind fun x1179 => (some (0 : Int)).bind fun x1180 => some (!decide (x1179 = x1180))).bind fun x1185 => if x1185 = true then
  (seqO ((some false).bind fun x1184 => some (Out.rt x1184)) fun s =>
  some (Out.nx (ρ := Bool) s))
  else some (Out.nx (ρ := Bool) s)) fun s =>
  some (Out.nx (ρ := Bool) { s with v_turn := 0, v_base := 0, v_many := 0, v_by := 0, v_number := 0, v_ahead := 0, v_again := 0, v_done := false, v_one := ⟨[]⟩, v_two := ⟨[]⟩ })
def fb_law (s : S_law) : Option (Out S_law Bool) :=
  seqO ((((some s.v_script).bind fun x205 => (some ()).bind fun x206 => some (x205, x206)).bind fun x207 => F__law_draws x207.1).bind fun x208 => some (Out.nx (ρ := Bool) { s with v_draws := x208 })) fun s =>
  seqO (((some (5 : Int)).bind fun x592 => rng1 x592).bind fun x1186 => forO (fun (s : S_law) (t : Int) => { s with v_turn := t }) lp_law_1 x1186 s) fun s =>
  seqO ((some true).bind fun x1189 => some (Out.rt x1189)) fun s =>
  some (Out.nx (ρ := Bool) s)
def F_law (v_script : (List Int)) : Option Bool := outF none (fb_law (⟨v_script, [], 0, 0, 0, 0, 0, 0, 0, 0, false, ⟨[]⟩, ⟨[]⟩⟩ : S_law))
@[reducible] def sa_law (a : (List Int) × Unit) : Sl := [some (Mo.b, enc a.1), none, none, none, none, none, none, none, none, none, none, none, none]
@[reducible] def in_law (a : (List Int) × Unit) : S_law := ⟨a.1, [], 0, 0, 0, 0, 0, 0, 0, 0, false, ⟨[]⟩, ⟨[]⟩⟩
abbrev N_law : List Str := ["script", "draws", "turn", "base", "many", "by", "step", "number", "ahead", "again", "done", "one", "two"]
abbrev s_law : Stmt := topS 53
theorem sc_law : FnScope N_law ["script"] (defScope s_law) := ⟨rfl, rfl, rfl, by decide +kernel, rfl, by decide +kernel, by decide +kernel⟩
theorem ok_law (T : Top K mg) : FnAt P w K mg base T.a_law T.d_law ["script"] (spF K N_law 1 sa_law .a (fun a => F_law a.1)) := by
  have nd := sc_law.nd
  refine fnAt_v (k := 4) (slE := sl_law_12) (fb := fun a => fb_law (in_law a)) none T.F_law sc_law ⟨rfl, by decide, by decide⟩ rfl (fun _ h => nomatch h) (.inl rfl) (fun _ => rfl) fun cdv s H E hr => ?_
  exact (bv_wk (sl'' := sl_law_12) (h := in_law) (fun _ => Wk.refl _)
  (bv_cons (sl'' := sl_law_11) (sv_set (i := 1) (fun (s : S_law) t => { s with v_draws := t }) (fun _ _ => rfl) nd (PV.fa (pv_callf (ok__law_draws T) (hr.mono (by decide)) (by rfl) T.m__law_draws T.F__law_draws.kp T.b__law_draws (av_b (pv_varb (i := 0) (fun s : S_law => s.v_script) (fun _ => rfl)) av_nil) (fun _ => ⟨5, rfl, rfl⟩))))
  (bv_cons (sl'' := sl_law_11) (sv_for (sl := sl_law_11) PassesOwn.never (piv_range1 (by rfl) T.z_range (PV.ab pv_int)) (gv_name (i := 2) (slb := sl_law_10) (set := (fun (s : S_law) (t : Int) => { s with v_turn := t })) (fun _ _ => rfl) nd)
  (bv_cons (sl'' := sl_law_9) (sv_set (i := 3) (fun (s : S_law) t => { s with v_base := t }) (fun _ _ => rfl) nd (pv_add (PV.ab pv_int) (PV.ab (pv_calla (ok__law_mix T) (hr.mono (by decide)) (by rfl) T.m__law_mix T.F__law_mix.kp T.b__law_mix (av_b (PV.ab (pv_var (i := 1) (fun s : S_law => s.v_draws) (fun _ => rfl))) (av_a (pv_var (i := 2) (fun s : S_law => s.v_turn) (fun _ => rfl)) (av_a pv_int av_nil))) (fun _ => ⟨1, rfl, rfl⟩)))))
  (bv_cons (sl'' := sl_law_8) (sv_set (i := 4) (fun (s : S_law) t => { s with v_many := t }) (fun _ _ => rfl) nd (pv_add (PV.ab pv_int) (PV.ab (pv_calla (ok__law_mix T) (hr.mono (by decide)) (by rfl) T.m__law_mix T.F__law_mix.kp T.b__law_mix (av_b (PV.ab (pv_var (i := 1) (fun s : S_law => s.v_draws) (fun _ => rfl))) (av_a (pv_add (PV.ab pv_int) (PV.ab (pv_var (i := 2) (fun s : S_law => s.v_turn) (fun _ => rfl)))) (av_a pv_int av_nil))) (fun _ => ⟨1, rfl, rfl⟩)))))
  (bv_cons (sl'' := sl_law_5) (sv_set (i := 5) (fun (s : S_law) t => { s with v_by := t }) (fun _ _ => rfl) nd (pv_var (i := 3) (fun s : S_law => s.v_base) (fun _ => rfl)))
  (bv_cons (sl'' := sl_law_5) (sv_for (sl := sl_law_5) PassesOwn.never (piv_range1 (by rfl) T.z_range (PV.ab (pv_sub (PV.ab (pv_var (i := 4) (fun s : S_law => s.v_many) (fun _ => rfl))) (PV.ab pv_int)))) (gv_name (i := 6) (slb := sl_law_4) (set := (fun (s : S_law) (t : Int) => { s with v_step := t })) (fun _ _ => rfl) nd)
  (bv_cons (sl'' := sl_law_4) (sv_set (i := 5) (fun (s : S_law) t => { s with v_by := t }) (fun _ _ => rfl) nd (pv_mul (PV.ab (pv_var (i := 5) (fun s : S_law => s.v_by) (fun _ => rfl))) (PV.ab (pv_var (i := 3) (fun s : S_law => s.v_base) (fun _ => rfl)))))
  (bv_nil (h := fun (s : S_law) => ({ s with v_step := 0 } : S_law)) (fun _ => (.s (.s (.s (.s (.s (.s (.d (.s (.s (.s (.s (.s (.s .nil)))))))))))))))))
  (bv_cons (sl'' := sl_law_5) (sv_if (pb_cmp c_gt (PV.ab (pv_var (i := 5) (fun s : S_law => s.v_by) (fun _ => rfl))) (PV.ab pv_int))
  (bv_cons (sl'' := sl_law_5) (sv_par (i := 4) (j := 5) (fun (s : S_law) x702 x703 => { s with v_many := x702, v_by := x703 }) (fun _ _ _ => rfl) nd pv_int (pv_var (i := 3) (fun s : S_law => s.v_base) (fun _ => rfl)))
  (bv_nil (h := fun (s : S_law) => (s : S_law)) (fun _ => (.s (.s (.s (.s (.s (.s (.s (.s (.s (.s (.s (.s (.s .nil))))))))))))))))
  (bv_nil (h := fun (s : S_law) => (s : S_law)) (fun _ => (.s (.s (.s (.s (.s (.s (.s (.s (.s (.s (.s (.s (.s .nil))))))))))))))))
  (bv_cons (sl'' := sl_law_7) (sv_set (i := 7) (fun (s : S_law) t => { s with v_number := t }) (fun _ _ => rfl) nd (pv_add (PV.ab pv_int) (PV.ab (pv_calla (ok__law_mix T) (hr.mono (by decide)) (by rfl) T.m__law_mix T.F__law_mix.kp T.b__law_mix (av_b (PV.ab (pv_var (i := 1) (fun s : S_law => s.v_draws) (fun _ => rfl))) (av_a (pv_add (PV.ab pv_int) (PV.ab (pv_var (i := 2) (fun s : S_law => s.v_turn) (fun _ => rfl)))) (av_a pv_int av_nil))) (fun _ => ⟨1, rfl, rfl⟩)))))
  (bv_cons (sl'' := sl_law_1) (sv_tup (gv_tup (fun t : (T2 Int Int) => [enc t.a, enc t.b]) (fun _ => rfl) (fun _ => rfl) (gvs_cons (p1 := fun t : (T2 Int Int) => t.a) (p2 := fun t : (T2 Int Int) => t) (gv_name (i := 8) (slb := sl_law_0) (set := fun (s : S_law) (t : Int) => { s with v_ahead := t }) (fun _ _ => rfl) nd) (gvs_cons (p1 := fun t : (T2 Int Int) => t.b) (p2 := fun t : (T2 Int Int) => t) (gv_name (i := 9) (slb := sl_law_1) (set := fun (s : S_law) (t : Int) => { s with v_again := t }) (fun _ _ => rfl) nd) gvs_nil))) (pv_calla (ok_lengths T) (hr.mono (by decide)) (by rfl) T.m_lengths T.F_lengths.kp T.b_lengths (av_a (pv_tup2 pv_int (pv_var (i := 5) (fun s : S_law => s.v_by) (fun _ => rfl))) (av_a (pv_var (i := 7) (fun s : S_law => s.v_number) (fun _ => rfl)) av_nil)) (fun _ => ⟨0, rfl, rfl⟩)))
  (bv_cons (sl'' := sl_law_1) (sv_if (pb_cmp (c_neD (hu64 hr)) (PV.ab (pv_calla (ok_comes_again T) (hr.mono (by decide)) (by rfl) T.m_comes_again T.F_comes_again.kp T.b_comes_again (av_a (pv_var (i := 7) (fun s : S_law => s.v_number) (fun _ => rfl)) (av_a (pv_var (i := 4) (fun s : S_law => s.v_many) (fun _ => rfl)) (av_a (pv_var (i := 3) (fun s : S_law => s.v_base) (fun _ => rfl)) av_nil))) (fun _ => ⟨4, rfl, rfl⟩))) (PV.ab (pv_tup2 (pv_var (i := 8) (fun s : S_law => s.v_ahead) (fun _ => rfl)) (pv_max2 (by rfl) T.z_max (PV.ab pv_int) (PV.ab (pv_var (i := 9) (fun s : S_law => s.v_again) (fun _ => rfl)))))))
  (bv_cons (sl'' := sl_law_1) (sv_ret pv_bool)
  (bv_nil (sl := sl_law_1) (h := fun s => s) (fun _ => Wk.refl _)))
  (bv_nil (h := fun (s : S_law) => (s : S_law)) (fun _ => (.s (.s (.s (.s (.s (.s (.s (.s (.s (.s (.s (.s (.s .nil))))))))))))))))
  (bv_cons (sl'' := sl_law_6) (sv_set (i := 10) (fun (s : S_law) t => { s with v_done := t }) (fun _ _ => rfl) nd (pv_calla (ok_ends T) (hr.mono (by decide)) (by rfl) T.m_ends T.F_ends.kp T.b_ends (av_a (pv_tup2 pv_int (pv_var (i := 5) (fun s : S_law => s.v_by) (fun _ => rfl))) (av_a (pv_var (i := 7) (fun s : S_law => s.v_number) (fun _ => rfl)) av_nil)) (fun _ => ⟨0, rfl, rfl⟩)))
  (bv_cons (sl'' := sl_law_6) (sv_if (PBw.pb (pb_or (pb_cmp c_neS (PV.ab (pv_var (i := 10) (fun s : S_law => s.v_done) (fun _ => rfl))) (PV.ab (pv_cmp c_eqS (PV.ab (pv_calla (ok_last_digits T) (hr.mono (by decide)) (by rfl) T.m_last_digits T.F_last_digits.kp T.b_last_digits (av_a (pv_var (i := 7) (fun s : S_law => s.v_number) (fun _ => rfl)) (av_a (pv_add (PV.ab (pv_var (i := 8) (fun s : S_law => s.v_ahead) (fun _ => rfl))) (PV.ab pv_int)) (av_a (pv_var (i := 4) (fun s : S_law => s.v_many) (fun _ => rfl)) (av_a (pv_var (i := 3) (fun s : S_law => s.v_base) (fun _ => rfl)) av_nil)))) (fun _ => ⟨1, rfl, rfl⟩))) (PV.ab (pv_repS (PV.ab (pv_str [48])) (PV.ab (pv_var (i := 4) (fun s : S_law => s.v_many) (fun _ => rfl)))))))) (pb_or1 (pb_cmp c_neS (PV.ab (pv_var (i := 10) (fun s : S_law => s.v_done) (fun _ => rfl))) (PV.ab (pv_cmp c_eqS (PV.ab (pv_var (i := 9) (fun s : S_law => s.v_again) (fun _ => rfl))) (PV.ab pv_int)))))))
  (bv_cons (sl'' := sl_law_6) (sv_ret pv_bool)
  (bv_nil (sl := sl_law_6) (h := fun s => s) (fun _ => Wk.refl _)))
  (bv_nil (h := fun (s : S_law) => (s : S_law)) (fun _ => (.s (.s (.s (.s (.s (.s (.s (.s (.s (.s (.s (.s (.s .nil))))))))))))))))
  (bv_cons (sl'' := sl_law_3) (sv_tup (gv_tup (fun t : (T2 Tx Tx) => [enc t.a, enc t.b]) (fun _ => rfl) (fun _ => rfl) (gvs_cons (p1 := fun t : (T2 Tx Tx) => t.a) (p2 := fun t : (T2 Tx Tx) => t) (gv_name (i := 11) (slb := sl_law_2) (set := fun (s : S_law) (t : Tx) => { s with v_one := t }) (fun _ _ => rfl) nd) (gvs_cons (p1 := fun t : (T2 Tx Tx) => t.b) (p2 := fun t : (T2 Tx Tx) => t) (gv_name (i := 12) (slb := sl_law_3) (set := fun (s : S_law) (t : Tx) => { s with v_two := t }) (fun _ _ => rfl) nd) gvs_nil))) (pv_calla (ok_digits T) (hr.mono (by decide)) (by rfl) T.m_digits T.F_digits.kp T.b_digits (av_a (pv_tup2 pv_int (pv_var (i := 5) (fun s : S_law => s.v_by) (fun _ => rfl))) (av_a (pv_var (i := 7) (fun s : S_law => s.v_number) (fun _ => rfl)) av_nil)) (fun _ => ⟨5, rfl, rfl⟩)))
  (bv_cons (sl'' := sl_law_3) (sv_if (PBw.pb (pb_or (pb_cmp c_neS (PV.ab (pv_lenS (by rfl) T.z_len (PV.ab (pv_var (i := 11) (fun s : S_law => s.v_one) (fun _ => rfl))))) (PV.ab (pv_var (i := 8) (fun s : S_law => s.v_ahead) (fun _ => rfl)))) (pb_or (pb_cmp c_neS (PV.ab (pv_lenS (by rfl) T.z_len (PV.ab (pv_var (i := 12) (fun s : S_law => s.v_two) (fun _ => rfl))))) (PV.ab (pv_var (i := 9) (fun s : S_law => s.v_again) (fun _ => rfl)))) (pb_or1 (PBw.pb (pb_and (pb_cmp c_lt (PV.ab (pv_lenS (by rfl) T.z_len (PV.ab (pv_var (i := 11) (fun s : S_law => s.v_one) (fun _ => rfl))))) (PV.ab pv_int)) (pb_and (pb_cmp c_lt (PV.ab (pv_lenS (by rfl) T.z_len (PV.ab (pv_var (i := 12) (fun s : S_law => s.v_two) (fun _ => rfl))))) (PV.ab pv_int)) (pb_and1 (pb_cmp (c_neD (hu64 hr)) (PV.ab (pv_calla (ok_part_of T) (hr.mono (by decide)) (by rfl) T.m_part_of T.F_part_of.kp T.b_part_of (av_a (pv_var (i := 11) (fun s : S_law => s.v_one) (fun _ => rfl)) (av_a (pv_var (i := 12) (fun s : S_law => s.v_two) (fun _ => rfl)) (av_a (pv_var (i := 7) (fun s : S_law => s.v_number) (fun _ => rfl)) av_nil))) (fun _ => ⟨6, rfl, rfl⟩))) (PV.ab (pv_tup2 pv_int (pv_var (i := 5) (fun s : S_law => s.v_by) (fun _ => rfl)))))))))))))
  (bv_cons (sl'' := sl_law_3) (sv_ret pv_bool)
  (bv_nil (sl := sl_law_3) (h := fun s => s) (fun _ => Wk.refl _)))
  (bv_nil (h := fun (s : S_law) => (s : S_law)) (fun _ => (.s (.s (.s (.s (.s (.s (.s (.s (.s (.s (.s (.s (.s .nil))))))))))))))))
  (bv_cons (sl'' := sl_law_3) (sv_if (PBw.pb (pb_or (pb_cmp (c_neD (hu64 hr)) (PV.fb (pv_callf (ok_greedy T) (hr.mono (by decide)) (by rfl) T.m_greedy T.F_greedy.kp T.b_greedy (av_a (pv_tup2 pv_int (pv_var (i := 5) (fun s : S_law => s.v_by) (fun _ => rfl))) av_nil) (fun _ => ⟨3, rfl, rfl⟩))) (PV.fb (pv_lst (pal_cons (pv_var (i := 5) (fun s : S_law => s.v_by) (fun _ => rfl)) (pal_nil (τ := Int)))))) (pb_or (pb_cmp c_isntB (PV.ab (pv_calla (ok_is_sum T) (hr.mono (by decide)) (by rfl) T.m_is_sum T.F_is_sum.kp T.b_is_sum (av_a (pv_tup2 pv_int (pv_var (i := 5) (fun s : S_law => s.v_by) (fun _ => rfl))) (av_a (PV.fa (pv_lst (pal_cons (pv_var (i := 5) (fun s : S_law => s.v_by) (fun _ => rfl)) (pal_nil (τ := Int))))) av_nil)) (fun _ => ⟨4, rfl, rfl⟩))) (PV.ab pv_bool)) (pb_or1 (pb_cmp c_isntB (PV.ab (pv_calla (ok_is_sum T) (hr.mono (by decide)) (by rfl) T.m_is_sum T.F_is_sum.kp T.b_is_sum (av_a (pv_tup2 pv_int (pv_var (i := 5) (fun s : S_law => s.v_by) (fun _ => rfl))) (av_a (PV.fa (pv_lst (pal_cons (pv_add (PV.ab (pv_var (i := 5) (fun s : S_law => s.v_by) (fun _ => rfl))) (PV.ab pv_int)) (pal_nil (τ := Int))))) av_nil)) (fun _ => ⟨4, rfl, rfl⟩))) (PV.ab pv_bool))))))
  (bv_cons (sl'' := sl_law_3) (sv_ret pv_bool)
  (bv_nil (sl := sl_law_3) (h := fun s => s) (fun _ => Wk.refl _)))
  (bv_nil (h := fun (s : S_law) => (s : S_law)) (fun _ => (.s (.s (.s (.s (.s (.s (.s (.s (.s (.s (.s (.s (.s .nil))))))))))))))))
  (bv_cons (sl'' := sl_law_3) (sv_if (PBw.pb (pb_or (pb_cmp c_neS (PV.ab (pv_calla (ok_zeros T) (hr.mono (by decide)) (by rfl) T.m_zeros T.F_zeros.kp T.b_zeros (av_a (pv_var (i := 5) (fun s : S_law => s.v_by) (fun _ => rfl)) (av_a (pv_var (i := 3) (fun s : S_law => s.v_base) (fun _ => rfl)) av_nil)) (fun _ => ⟨0, rfl, rfl⟩))) (PV.ab (pv_var (i := 4) (fun s : S_law => s.v_many) (fun _ => rfl)))) (pb_or1 (pb_cmp c_neS (PV.ab (pv_calla (ok_zeros T) (hr.mono (by decide)) (by rfl) T.m_zeros T.F_zeros.kp T.b_zeros (av_a (pv_add (PV.ab (pv_var (i := 5) (fun s : S_law => s.v_by) (fun _ => rfl))) (PV.ab pv_int)) (av_a (pv_var (i := 3) (fun s : S_law => s.v_base) (fun _ => rfl)) av_nil)) (fun _ => ⟨0, rfl, rfl⟩))) (PV.ab pv_int)))))
  (bv_cons (sl'' := sl_law_3) (sv_ret pv_bool)
  (bv_nil (sl := sl_law_3) (h := fun s => s) (fun _ => Wk.refl _)))
  (bv_nil (h := fun (s : S_law) => (s : S_law)) (fun _ => (.s (.s (.s (.s (.s (.s (.s (.s (.s (.s (.s (.s (.s .nil))))))))))))))))
  (bv_nil (h := fun (s : S_law) => ({ s with v_turn := 0, v_base := 0, v_many := 0, v_by := 0, v_number := 0, v_ahead := 0, v_again := 0, v_done := false, v_one := ⟨[]⟩, v_two := ⟨[]⟩ } : S_law)) (fun _ => (.s (.s (.d (.d (.d (.d (.s (.d (.d (.d (.d (.d (.d .nil))))))))))))))))))))))))))))))
  (bv_cons (sl'' := sl_law_12) (sv_ret pv_bool)
  (bv_nil (sl := sl_law_12) (h := fun s => s) (fun _ => Wk.refl _))))))
theorem mk_top {h : Heap} {fa : Addr} (X : K.In h) (G : h.Ns mainGlobals mg) (hfa : mg "law" = some (.ref fa))
    {x__law_draws : Addr} {od__law_draws an__law_draws : Option Addr} {osl__law_draws : Array (Option Value)} {oc__law_draws kV__law_draws dc__law_draws pm__law_draws cd__law_draws ct__law_draws : Value}
    (a__law_draws : PySem.W.nsIn K mainGlobals "_law_draws" = some (some (.ref x__law_draws))) (l__law_draws : K.lookup x__law_draws = some ⟨oc__law_draws, od__law_draws, .func (PySem.W.fnOf "_law_draws" "_law_draws" (defArgs s__law_draws) (defBody s__law_draws) (defScope s__law_draws) .none kV__law_draws dc__law_draws pm__law_draws an__law_draws cd__law_draws ct__law_draws), osl__law_draws⟩) (c__law_draws : PySem.W.codeIn K cd__law_draws "_law_draws" = true) (k__law_draws : PySem.W.keepIn K (.ref x__law_draws) = true)
    {x_is_fraction : Addr} {od_is_fraction an_is_fraction : Option Addr} {osl_is_fraction : Array (Option Value)} {oc_is_fraction kV_is_fraction dc_is_fraction pm_is_fraction cd_is_fraction ct_is_fraction : Value}
    (a_is_fraction : PySem.W.nsIn K mainGlobals "is_fraction" = some (some (.ref x_is_fraction))) (l_is_fraction : K.lookup x_is_fraction = some ⟨oc_is_fraction, od_is_fraction, .func (PySem.W.fnOf "is_fraction" "is_fraction" (defArgs s_is_fraction) (defBody s_is_fraction) (defScope s_is_fraction) .none kV_is_fraction dc_is_fraction pm_is_fraction an_is_fraction cd_is_fraction ct_is_fraction), osl_is_fraction⟩) (c_is_fraction : PySem.W.codeIn K cd_is_fraction "is_fraction" = true) (k_is_fraction : PySem.W.keepIn K (.ref x_is_fraction) = true)
    {x_check_part : Addr} {od_check_part an_check_part : Option Addr} {osl_check_part : Array (Option Value)} {oc_check_part kV_check_part dc_check_part pm_check_part cd_check_part ct_check_part : Value}
    (a_check_part : PySem.W.nsIn K mainGlobals "check_part" = some (some (.ref x_check_part))) (l_check_part : K.lookup x_check_part = some ⟨oc_check_part, od_check_part, .func (PySem.W.fnOf "check_part" "check_part" (defArgs s_check_part) (defBody s_check_part) (defScope s_check_part) .none kV_check_part dc_check_part pm_check_part an_check_part cd_check_part ct_check_part), osl_check_part⟩) (c_check_part : PySem.W.codeIn K cd_check_part "check_part" = true) (k_check_part : PySem.W.keepIn K (.ref x_check_part) = true)
    {x_check_base : Addr} {od_check_base an_check_base : Option Addr} {osl_check_base : Array (Option Value)} {oc_check_base kV_check_base dc_check_base pm_check_base cd_check_base ct_check_base : Value}
    (a_check_base : PySem.W.nsIn K mainGlobals "check_base" = some (some (.ref x_check_base))) (l_check_base : K.lookup x_check_base = some ⟨oc_check_base, od_check_base, .func (PySem.W.fnOf "check_base" "check_base" (defArgs s_check_base) (defBody s_check_base) (defScope s_check_base) .none kV_check_base dc_check_base pm_check_base an_check_base cd_check_base ct_check_base), osl_check_base⟩) (c_check_base : PySem.W.codeIn K cd_check_base "check_base" = true) (k_check_base : PySem.W.keepIn K (.ref x_check_base) = true)
    {x_check_both : Addr} {od_check_both an_check_both : Option Addr} {osl_check_both : Array (Option Value)} {oc_check_both kV_check_both dc_check_both pm_check_both cd_check_both ct_check_both : Value}
    (a_check_both : PySem.W.nsIn K mainGlobals "check_both" = some (some (.ref x_check_both))) (l_check_both : K.lookup x_check_both = some ⟨oc_check_both, od_check_both, .func (PySem.W.fnOf "check_both" "check_both" (defArgs s_check_both) (defBody s_check_both) (defScope s_check_both) .none kV_check_both dc_check_both pm_check_both an_check_both cd_check_both ct_check_both), osl_check_both⟩) (c_check_both : PySem.W.codeIn K cd_check_both "check_both" = true) (k_check_both : PySem.W.keepIn K (.ref x_check_both) = true)
    {x_split : Addr} {od_split an_split : Option Addr} {osl_split : Array (Option Value)} {oc_split kV_split dc_split pm_split cd_split ct_split : Value}
    (a_split : PySem.W.nsIn K mainGlobals "split" = some (some (.ref x_split))) (l_split : K.lookup x_split = some ⟨oc_split, od_split, .func (PySem.W.fnOf "split" "split" (defArgs s_split) (defBody s_split) (defScope s_split) .none kV_split dc_split pm_split an_split cd_split ct_split), osl_split⟩) (c_split : PySem.W.codeIn K cd_split "split" = true) (k_split : PySem.W.keepIn K (.ref x_split) = true)
    {x_lengths_of : Addr} {od_lengths_of an_lengths_of : Option Addr} {osl_lengths_of : Array (Option Value)} {oc_lengths_of kV_lengths_of dc_lengths_of pm_lengths_of cd_lengths_of ct_lengths_of : Value}
    (a_lengths_of : PySem.W.nsIn K mainGlobals "lengths_of" = some (some (.ref x_lengths_of))) (l_lengths_of : K.lookup x_lengths_of = some ⟨oc_lengths_of, od_lengths_of, .func (PySem.W.fnOf "lengths_of" "lengths_of" (defArgs s_lengths_of) (defBody s_lengths_of) (defScope s_lengths_of) .none kV_lengths_of dc_lengths_of pm_lengths_of an_lengths_of cd_lengths_of ct_lengths_of), osl_lengths_of⟩) (c_lengths_of : PySem.W.codeIn K cd_lengths_of "lengths_of" = true) (k_lengths_of : PySem.W.keepIn K (.ref x_lengths_of) = true)
    {x_lengths : Addr} {od_lengths an_lengths : Option Addr} {osl_lengths : Array (Option Value)} {oc_lengths kV_lengths dc_lengths pm_lengths cd_lengths ct_lengths : Value}
    (a_lengths : PySem.W.nsIn K mainGlobals "lengths" = some (some (.ref x_lengths))) (l_lengths : K.lookup x_lengths = some ⟨oc_lengths, od_lengths, .func (PySem.W.fnOf "lengths" "lengths" (defArgs s_lengths) (defBody s_lengths) (defScope s_lengths) .none kV_lengths dc_lengths pm_lengths an_lengths cd_lengths ct_lengths), osl_lengths⟩) (c_lengths : PySem.W.codeIn K cd_lengths "lengths" = true) (k_lengths : PySem.W.keepIn K (.ref x_lengths) = true)
    {x_ends : Addr} {od_ends an_ends : Option Addr} {osl_ends : Array (Option Value)} {oc_ends kV_ends dc_ends pm_ends cd_ends ct_ends : Value}
    (a_ends : PySem.W.nsIn K mainGlobals "ends" = some (some (.ref x_ends))) (l_ends : K.lookup x_ends = some ⟨oc_ends, od_ends, .func (PySem.W.fnOf "ends" "ends" (defArgs s_ends) (defBody s_ends) (defScope s_ends) .none kV_ends dc_ends pm_ends an_ends cd_ends ct_ends), osl_ends⟩) (c_ends : PySem.W.codeIn K cd_ends "ends" = true) (k_ends : PySem.W.keepIn K (.ref x_ends) = true)
    {x_digits : Addr} {od_digits an_digits : Option Addr} {osl_digits : Array (Option Value)} {oc_digits kV_digits dc_digits pm_digits cd_digits ct_digits : Value}
    (a_digits : PySem.W.nsIn K mainGlobals "digits" = some (some (.ref x_digits))) (l_digits : K.lookup x_digits = some ⟨oc_digits, od_digits, .func (PySem.W.fnOf "digits" "digits" (defArgs s_digits) (defBody s_digits) (defScope s_digits) .none kV_digits dc_digits pm_digits an_digits cd_digits ct_digits), osl_digits⟩) (c_digits : PySem.W.codeIn K cd_digits "digits" = true) (k_digits : PySem.W.keepIn K (.ref x_digits) = true)
    {x__law_mix : Addr} {od__law_mix an__law_mix : Option Addr} {osl__law_mix : Array (Option Value)} {oc__law_mix kV__law_mix dc__law_mix pm__law_mix cd__law_mix ct__law_mix : Value}
    (a__law_mix : PySem.W.nsIn K mainGlobals "_law_mix" = some (some (.ref x__law_mix))) (l__law_mix : K.lookup x__law_mix = some ⟨oc__law_mix, od__law_mix, .func (PySem.W.fnOf "_law_mix" "_law_mix" (defArgs s__law_mix) (defBody s__law_mix) (defScope s__law_mix) .none kV__law_mix dc__law_mix pm__law_mix an__law_mix cd__law_mix ct__law_mix), osl__law_mix⟩) (c__law_mix : PySem.W.codeIn K cd__law_mix "_law_mix" = true) (k__law_mix : PySem.W.keepIn K (.ref x__law_mix) = true)
    {x_check_numbers : Addr} {od_check_numbers an_check_numbers : Option Addr} {osl_check_numbers : Array (Option Value)} {oc_check_numbers kV_check_numbers dc_check_numbers pm_check_numbers cd_check_numbers ct_check_numbers : Value}
    (a_check_numbers : PySem.W.nsIn K mainGlobals "check_numbers" = some (some (.ref x_check_numbers))) (l_check_numbers : K.lookup x_check_numbers = some ⟨oc_check_numbers, od_check_numbers, .func (PySem.W.fnOf "check_numbers" "check_numbers" (defArgs s_check_numbers) (defBody s_check_numbers) (defScope s_check_numbers) .none kV_check_numbers dc_check_numbers pm_check_numbers an_check_numbers cd_check_numbers ct_check_numbers), osl_check_numbers⟩) (c_check_numbers : PySem.W.codeIn K cd_check_numbers "check_numbers" = true) (k_check_numbers : PySem.W.keepIn K (.ref x_check_numbers) = true)
    {x_power_of : Addr} {od_power_of an_power_of : Option Addr} {osl_power_of : Array (Option Value)} {oc_power_of kV_power_of dc_power_of pm_power_of cd_power_of ct_power_of : Value}
    (a_power_of : PySem.W.nsIn K mainGlobals "power_of" = some (some (.ref x_power_of))) (l_power_of : K.lookup x_power_of = some ⟨oc_power_of, od_power_of, .func (PySem.W.fnOf "power_of" "power_of" (defArgs s_power_of) (defBody s_power_of) (defScope s_power_of) .none kV_power_of dc_power_of pm_power_of an_power_of cd_power_of ct_power_of), osl_power_of⟩) (c_power_of : PySem.W.codeIn K cd_power_of "power_of" = true) (k_power_of : PySem.W.keepIn K (.ref x_power_of) = true)
    {x_comes_again : Addr} {od_comes_again an_comes_again : Option Addr} {osl_comes_again : Array (Option Value)} {oc_comes_again kV_comes_again dc_comes_again pm_comes_again cd_comes_again ct_comes_again : Value}
    (a_comes_again : PySem.W.nsIn K mainGlobals "comes_again" = some (some (.ref x_comes_again))) (l_comes_again : K.lookup x_comes_again = some ⟨oc_comes_again, od_comes_again, .func (PySem.W.fnOf "comes_again" "comes_again" (defArgs s_comes_again) (defBody s_comes_again) (defScope s_comes_again) .none kV_comes_again dc_comes_again pm_comes_again an_comes_again cd_comes_again ct_comes_again), osl_comes_again⟩) (c_comes_again : PySem.W.codeIn K cd_comes_again "comes_again" = true) (k_comes_again : PySem.W.keepIn K (.ref x_comes_again) = true)
    {x_check_some : Addr} {od_check_some an_check_some : Option Addr} {osl_check_some : Array (Option Value)} {oc_check_some kV_check_some dc_check_some pm_check_some cd_check_some ct_check_some : Value}
    (a_check_some : PySem.W.nsIn K mainGlobals "check_some" = some (some (.ref x_check_some))) (l_check_some : K.lookup x_check_some = some ⟨oc_check_some, od_check_some, .func (PySem.W.fnOf "check_some" "check_some" (defArgs s_check_some) (defBody s_check_some) (defScope s_check_some) .none kV_check_some dc_check_some pm_check_some an_check_some cd_check_some ct_check_some), osl_check_some⟩) (c_check_some : PySem.W.codeIn K cd_check_some "check_some" = true) (k_check_some : PySem.W.keepIn K (.ref x_check_some) = true)
    {x_least_unit : Addr} {od_least_unit an_least_unit : Option Addr} {osl_least_unit : Array (Option Value)} {oc_least_unit kV_least_unit dc_least_unit pm_least_unit cd_least_unit ct_least_unit : Value}
    (a_least_unit : PySem.W.nsIn K mainGlobals "least_unit" = some (some (.ref x_least_unit))) (l_least_unit : K.lookup x_least_unit = some ⟨oc_least_unit, od_least_unit, .func (PySem.W.fnOf "least_unit" "least_unit" (defArgs s_least_unit) (defBody s_least_unit) (defScope s_least_unit) .none kV_least_unit dc_least_unit pm_least_unit an_least_unit cd_least_unit ct_least_unit), osl_least_unit⟩) (c_least_unit : PySem.W.codeIn K cd_least_unit "least_unit" = true) (k_least_unit : PySem.W.keepIn K (.ref x_least_unit) = true)
    {x_fraction : Addr} {od_fraction an_fraction : Option Addr} {osl_fraction : Array (Option Value)} {oc_fraction kV_fraction dc_fraction pm_fraction cd_fraction ct_fraction : Value}
    (a_fraction : PySem.W.nsIn K mainGlobals "fraction" = some (some (.ref x_fraction))) (l_fraction : K.lookup x_fraction = some ⟨oc_fraction, od_fraction, .func (PySem.W.fnOf "fraction" "fraction" (defArgs s_fraction) (defBody s_fraction) (defScope s_fraction) .none kV_fraction dc_fraction pm_fraction an_fraction cd_fraction ct_fraction), osl_fraction⟩) (c_fraction : PySem.W.codeIn K cd_fraction "fraction" = true) (k_fraction : PySem.W.keepIn K (.ref x_fraction) = true)
    {x_minus : Addr} {od_minus an_minus : Option Addr} {osl_minus : Array (Option Value)} {oc_minus kV_minus dc_minus pm_minus cd_minus ct_minus : Value}
    (a_minus : PySem.W.nsIn K mainGlobals "minus" = some (some (.ref x_minus))) (l_minus : K.lookup x_minus = some ⟨oc_minus, od_minus, .func (PySem.W.fnOf "minus" "minus" (defArgs s_minus) (defBody s_minus) (defScope s_minus) .none kV_minus dc_minus pm_minus an_minus cd_minus ct_minus), osl_minus⟩) (c_minus : PySem.W.codeIn K cd_minus "minus" = true) (k_minus : PySem.W.keepIn K (.ref x_minus) = true)
    {x_greedy : Addr} {od_greedy an_greedy : Option Addr} {osl_greedy : Array (Option Value)} {oc_greedy kV_greedy dc_greedy pm_greedy cd_greedy ct_greedy : Value}
    (a_greedy : PySem.W.nsIn K mainGlobals "greedy" = some (some (.ref x_greedy))) (l_greedy : K.lookup x_greedy = some ⟨oc_greedy, od_greedy, .func (PySem.W.fnOf "greedy" "greedy" (defArgs s_greedy) (defBody s_greedy) (defScope s_greedy) .none kV_greedy dc_greedy pm_greedy an_greedy cd_greedy ct_greedy), osl_greedy⟩) (c_greedy : PySem.W.codeIn K cd_greedy "greedy" = true) (k_greedy : PySem.W.keepIn K (.ref x_greedy) = true)
    {x_plus : Addr} {od_plus an_plus : Option Addr} {osl_plus : Array (Option Value)} {oc_plus kV_plus dc_plus pm_plus cd_plus ct_plus : Value}
    (a_plus : PySem.W.nsIn K mainGlobals "plus" = some (some (.ref x_plus))) (l_plus : K.lookup x_plus = some ⟨oc_plus, od_plus, .func (PySem.W.fnOf "plus" "plus" (defArgs s_plus) (defBody s_plus) (defScope s_plus) .none kV_plus dc_plus pm_plus an_plus cd_plus ct_plus), osl_plus⟩) (c_plus : PySem.W.codeIn K cd_plus "plus" = true) (k_plus : PySem.W.keepIn K (.ref x_plus) = true)
    {x_is_sum : Addr} {od_is_sum an_is_sum : Option Addr} {osl_is_sum : Array (Option Value)} {oc_is_sum kV_is_sum dc_is_sum pm_is_sum cd_is_sum ct_is_sum : Value}
    (a_is_sum : PySem.W.nsIn K mainGlobals "is_sum" = some (some (.ref x_is_sum))) (l_is_sum : K.lookup x_is_sum = some ⟨oc_is_sum, od_is_sum, .func (PySem.W.fnOf "is_sum" "is_sum" (defArgs s_is_sum) (defBody s_is_sum) (defScope s_is_sum) .none kV_is_sum dc_is_sum pm_is_sum an_is_sum cd_is_sum ct_is_sum), osl_is_sum⟩) (c_is_sum : PySem.W.codeIn K cd_is_sum "is_sum" = true) (k_is_sum : PySem.W.keepIn K (.ref x_is_sum) = true)
    {x_zeros_of : Addr} {od_zeros_of an_zeros_of : Option Addr} {osl_zeros_of : Array (Option Value)} {oc_zeros_of kV_zeros_of dc_zeros_of pm_zeros_of cd_zeros_of ct_zeros_of : Value}
    (a_zeros_of : PySem.W.nsIn K mainGlobals "zeros_of" = some (some (.ref x_zeros_of))) (l_zeros_of : K.lookup x_zeros_of = some ⟨oc_zeros_of, od_zeros_of, .func (PySem.W.fnOf "zeros_of" "zeros_of" (defArgs s_zeros_of) (defBody s_zeros_of) (defScope s_zeros_of) .none kV_zeros_of dc_zeros_of pm_zeros_of an_zeros_of cd_zeros_of ct_zeros_of), osl_zeros_of⟩) (c_zeros_of : PySem.W.codeIn K cd_zeros_of "zeros_of" = true) (k_zeros_of : PySem.W.keepIn K (.ref x_zeros_of) = true)
    {x_zeros : Addr} {od_zeros an_zeros : Option Addr} {osl_zeros : Array (Option Value)} {oc_zeros kV_zeros dc_zeros pm_zeros cd_zeros ct_zeros : Value}
    (a_zeros : PySem.W.nsIn K mainGlobals "zeros" = some (some (.ref x_zeros))) (l_zeros : K.lookup x_zeros = some ⟨oc_zeros, od_zeros, .func (PySem.W.fnOf "zeros" "zeros" (defArgs s_zeros) (defBody s_zeros) (defScope s_zeros) .none kV_zeros dc_zeros pm_zeros an_zeros cd_zeros ct_zeros), osl_zeros⟩) (c_zeros : PySem.W.codeIn K cd_zeros "zeros" = true) (k_zeros : PySem.W.keepIn K (.ref x_zeros) = true)
    {x_digits_of : Addr} {od_digits_of an_digits_of : Option Addr} {osl_digits_of : Array (Option Value)} {oc_digits_of kV_digits_of dc_digits_of pm_digits_of cd_digits_of ct_digits_of : Value}
    (a_digits_of : PySem.W.nsIn K mainGlobals "digits_of" = some (some (.ref x_digits_of))) (l_digits_of : K.lookup x_digits_of = some ⟨oc_digits_of, od_digits_of, .func (PySem.W.fnOf "digits_of" "digits_of" (defArgs s_digits_of) (defBody s_digits_of) (defScope s_digits_of) .none kV_digits_of dc_digits_of pm_digits_of an_digits_of cd_digits_of ct_digits_of), osl_digits_of⟩) (c_digits_of : PySem.W.codeIn K cd_digits_of "digits_of" = true) (k_digits_of : PySem.W.keepIn K (.ref x_digits_of) = true)
    {x_write_of : Addr} {od_write_of an_write_of : Option Addr} {osl_write_of : Array (Option Value)} {oc_write_of kV_write_of dc_write_of pm_write_of cd_write_of ct_write_of : Value}
    (a_write_of : PySem.W.nsIn K mainGlobals "write_of" = some (some (.ref x_write_of))) (l_write_of : K.lookup x_write_of = some ⟨oc_write_of, od_write_of, .func (PySem.W.fnOf "write_of" "write_of" (defArgs s_write_of) (defBody s_write_of) (defScope s_write_of) .none kV_write_of dc_write_of pm_write_of an_write_of cd_write_of ct_write_of), osl_write_of⟩) (c_write_of : PySem.W.codeIn K cd_write_of "write_of" = true) (k_write_of : PySem.W.keepIn K (.ref x_write_of) = true)
    {x_power_rest : Addr} {od_power_rest an_power_rest : Option Addr} {osl_power_rest : Array (Option Value)} {oc_power_rest kV_power_rest dc_power_rest pm_power_rest cd_power_rest ct_power_rest : Value}
    (a_power_rest : PySem.W.nsIn K mainGlobals "power_rest" = some (some (.ref x_power_rest))) (l_power_rest : K.lookup x_power_rest = some ⟨oc_power_rest, od_power_rest, .func (PySem.W.fnOf "power_rest" "power_rest" (defArgs s_power_rest) (defBody s_power_rest) (defScope s_power_rest) .none kV_power_rest dc_power_rest pm_power_rest an_power_rest cd_power_rest ct_power_rest), osl_power_rest⟩) (c_power_rest : PySem.W.codeIn K cd_power_rest "power_rest" = true) (k_power_rest : PySem.W.keepIn K (.ref x_power_rest) = true)
    {x_last_digits : Addr} {od_last_digits an_last_digits : Option Addr} {osl_last_digits : Array (Option Value)} {oc_last_digits kV_last_digits dc_last_digits pm_last_digits cd_last_digits ct_last_digits : Value}
    (a_last_digits : PySem.W.nsIn K mainGlobals "last_digits" = some (some (.ref x_last_digits))) (l_last_digits : K.lookup x_last_digits = some ⟨oc_last_digits, od_last_digits, .func (PySem.W.fnOf "last_digits" "last_digits" (defArgs s_last_digits) (defBody s_last_digits) (defScope s_last_digits) .none kV_last_digits dc_last_digits pm_last_digits an_last_digits cd_last_digits ct_last_digits), osl_last_digits⟩) (c_last_digits : PySem.W.codeIn K cd_last_digits "last_digits" = true) (k_last_digits : PySem.W.keepIn K (.ref x_last_digits) = true)
    {x_read_of : Addr} {od_read_of an_read_of : Option Addr} {osl_read_of : Array (Option Value)} {oc_read_of kV_read_of dc_read_of pm_read_of cd_read_of ct_read_of : Value}
    (a_read_of : PySem.W.nsIn K mainGlobals "read_of" = some (some (.ref x_read_of))) (l_read_of : K.lookup x_read_of = some ⟨oc_read_of, od_read_of, .func (PySem.W.fnOf "read_of" "read_of" (defArgs s_read_of) (defBody s_read_of) (defScope s_read_of) .none kV_read_of dc_read_of pm_read_of an_read_of cd_read_of ct_read_of), osl_read_of⟩) (c_read_of : PySem.W.codeIn K cd_read_of "read_of" = true) (k_read_of : PySem.W.keepIn K (.ref x_read_of) = true)
    {x_part_of : Addr} {od_part_of an_part_of : Option Addr} {osl_part_of : Array (Option Value)} {oc_part_of kV_part_of dc_part_of pm_part_of cd_part_of ct_part_of : Value}
    (a_part_of : PySem.W.nsIn K mainGlobals "part_of" = some (some (.ref x_part_of))) (l_part_of : K.lookup x_part_of = some ⟨oc_part_of, od_part_of, .func (PySem.W.fnOf "part_of" "part_of" (defArgs s_part_of) (defBody s_part_of) (defScope s_part_of) .none kV_part_of dc_part_of pm_part_of an_part_of cd_part_of ct_part_of), osl_part_of⟩) (c_part_of : PySem.W.codeIn K cd_part_of "part_of" = true) (k_part_of : PySem.W.keepIn K (.ref x_part_of) = true)
    {x_law : Addr} {od_law an_law : Option Addr} {osl_law : Array (Option Value)} {oc_law kV_law dc_law pm_law cd_law ct_law : Value}
    (a_law : PySem.W.nsIn K mainGlobals "law" = some (some (.ref x_law))) (l_law : K.lookup x_law = some ⟨oc_law, od_law, .func (PySem.W.fnOf "law" "law" (defArgs s_law) (defBody s_law) (defScope s_law) .none kV_law dc_law pm_law an_law cd_law ct_law), osl_law⟩) (c_law : PySem.W.codeIn K cd_law "law" = true) (k_law : PySem.W.keepIn K (.ref x_law) = true)
    (z_abs : PySem.W.nsIn K mainGlobals "abs" = some none)
    (z_all : PySem.W.nsIn K mainGlobals "all" = some none)
    (z_enumerate : PySem.W.nsIn K mainGlobals "enumerate" = some none)
    (z_int : PySem.W.nsIn K mainGlobals "int" = some none)
    (z_len : PySem.W.nsIn K mainGlobals "len" = some none)
    (z_max : PySem.W.nsIn K mainGlobals "max" = some none)
    (z_min : PySem.W.nsIn K mainGlobals "min" = some none)
    (z_range : PySem.W.nsIn K mainGlobals "range" = some none)
    (z_tuple : PySem.W.nsIn K mainGlobals "tuple" = some none)
    (z_zip : PySem.W.nsIn K mainGlobals "zip" = some none)
    {t_DIGITS : Tok} (q_DIGITS : PySem.W.nsIn K mainGlobals "DIGITS" = some (some (.str "0123456789abcdefghijklmnopqrstuvwxyz" t_DIGITS)))
    {t_GREATEST_BASE : Tok} (q_GREATEST_BASE : PySem.W.nsIn K mainGlobals "GREATEST_BASE" = some (some (.int 12 t_GREATEST_BASE)))
    {t_LEAST_BASE : Tok} (q_LEAST_BASE : PySem.W.nsIn K mainGlobals "LEAST_BASE" = some (some (.int 2 t_LEAST_BASE)))
    {t_MOST_AGAIN : Tok} (q_MOST_AGAIN : PySem.W.nsIn K mainGlobals "MOST_AGAIN" = some (some (.int 3 t_MOST_AGAIN)))
    {t_MOST_BASE : Tok} (q_MOST_BASE : PySem.W.nsIn K mainGlobals "MOST_BASE" = some (some (.int 36 t_MOST_BASE)))
    {t_MOST_DIGITS : Tok} (q_MOST_DIGITS : PySem.W.nsIn K mainGlobals "MOST_DIGITS" = some (some (.int 60 t_MOST_DIGITS)))
    {t_MOST_LISTED : Tok} (q_MOST_LISTED : PySem.W.nsIn K mainGlobals "MOST_LISTED" = some (some (.int 20 t_MOST_LISTED)))
    {t_MOST_NUMBER : Tok} (q_MOST_NUMBER : PySem.W.nsIn K mainGlobals "MOST_NUMBER" = some (some (.int 1000000 t_MOST_NUMBER)))
    {t_MOST_SECOND : Tok} (q_MOST_SECOND : PySem.W.nsIn K mainGlobals "MOST_SECOND" = some (some (.int 1000 t_MOST_SECOND)))
    (q_gcd : PySem.W.nsIn K mainGlobals "gcd" = some (some (.builtin "math.gcd"))) :
    ∃ T : Top K mg, T.a_law = fa ∧ (∀ (s : Shared) (u : Value), BindsTo s T.d_law ⟨[u], []⟩ [("script", u)]) := by
  have e := hfa.symm.trans (PySem.W.mg_of X G a_law)
  refine ⟨{
    a__law_draws := x__law_draws, d__law_draws := PySem.W.fnOf "_law_draws" "_law_draws" (defArgs s__law_draws) (defBody s__law_draws) (defScope s__law_draws) .none kV__law_draws dc__law_draws pm__law_draws an__law_draws cd__law_draws ct__law_draws, F__law_draws := fun_mk l__law_draws c__law_draws k__law_draws, b__law_draws := (fun_mk (st := s__law_draws) l__law_draws c__law_draws k__law_draws).binds (ps := ["script"]) fun _ _ _ _ _ _ us hl => match us, hl with | [_], _ => rfl, m__law_draws := PySem.W.mg_of X G a__law_draws,
    a_is_fraction := x_is_fraction, d_is_fraction := PySem.W.fnOf "is_fraction" "is_fraction" (defArgs s_is_fraction) (defBody s_is_fraction) (defScope s_is_fraction) .none kV_is_fraction dc_is_fraction pm_is_fraction an_is_fraction cd_is_fraction ct_is_fraction, F_is_fraction := fun_mk l_is_fraction c_is_fraction k_is_fraction, b_is_fraction := (fun_mk (st := s_is_fraction) l_is_fraction c_is_fraction k_is_fraction).binds (ps := ["told"]) fun _ _ _ _ _ _ us hl => match us, hl with | [_], _ => rfl, m_is_fraction := PySem.W.mg_of X G a_is_fraction,
    a_check_part := x_check_part, d_check_part := PySem.W.fnOf "check_part" "check_part" (defArgs s_check_part) (defBody s_check_part) (defScope s_check_part) .none kV_check_part dc_check_part pm_check_part an_check_part cd_check_part ct_check_part, F_check_part := fun_mk l_check_part c_check_part k_check_part, b_check_part := (fun_mk (st := s_check_part) l_check_part c_check_part k_check_part).binds (ps := ["part"]) fun _ _ _ _ _ _ us hl => match us, hl with | [_], _ => rfl, m_check_part := PySem.W.mg_of X G a_check_part,
    a_check_base := x_check_base, d_check_base := PySem.W.fnOf "check_base" "check_base" (defArgs s_check_base) (defBody s_check_base) (defScope s_check_base) .none kV_check_base dc_check_base pm_check_base an_check_base cd_check_base ct_check_base, F_check_base := fun_mk l_check_base c_check_base k_check_base, b_check_base := (fun_mk (st := s_check_base) l_check_base c_check_base k_check_base).binds (ps := ["base"]) fun _ _ _ _ _ _ us hl => match us, hl with | [_], _ => rfl, m_check_base := PySem.W.mg_of X G a_check_base,
    a_check_both := x_check_both, d_check_both := PySem.W.fnOf "check_both" "check_both" (defArgs s_check_both) (defBody s_check_both) (defScope s_check_both) .none kV_check_both dc_check_both pm_check_both an_check_both cd_check_both ct_check_both, F_check_both := fun_mk l_check_both c_check_both k_check_both, b_check_both := (fun_mk (st := s_check_both) l_check_both c_check_both k_check_both).binds (ps := ["part", "base"]) fun _ _ _ _ _ _ us hl => match us, hl with | [_, _], _ => rfl, m_check_both := PySem.W.mg_of X G a_check_both,
    a_split := x_split, d_split := PySem.W.fnOf "split" "split" (defArgs s_split) (defBody s_split) (defScope s_split) .none kV_split dc_split pm_split an_split cd_split ct_split, F_split := fun_mk l_split c_split k_split, b_split := (fun_mk (st := s_split) l_split c_split k_split).binds (ps := ["number", "base"]) fun _ _ _ _ _ _ us hl => match us, hl with | [_, _], _ => rfl, m_split := PySem.W.mg_of X G a_split,
    a_lengths_of := x_lengths_of, d_lengths_of := PySem.W.fnOf "lengths_of" "lengths_of" (defArgs s_lengths_of) (defBody s_lengths_of) (defScope s_lengths_of) .none kV_lengths_of dc_lengths_of pm_lengths_of an_lengths_of cd_lengths_of ct_lengths_of, F_lengths_of := fun_mk l_lengths_of c_lengths_of k_lengths_of, b_lengths_of := (fun_mk (st := s_lengths_of) l_lengths_of c_lengths_of k_lengths_of).binds (ps := ["part", "base"]) fun _ _ _ _ _ _ us hl => match us, hl with | [_, _], _ => rfl, m_lengths_of := PySem.W.mg_of X G a_lengths_of,
    a_lengths := x_lengths, d_lengths := PySem.W.fnOf "lengths" "lengths" (defArgs s_lengths) (defBody s_lengths) (defScope s_lengths) .none kV_lengths dc_lengths pm_lengths an_lengths cd_lengths ct_lengths, F_lengths := fun_mk l_lengths c_lengths k_lengths, b_lengths := (fun_mk (st := s_lengths) l_lengths c_lengths k_lengths).binds (ps := ["part", "base"]) fun _ _ _ _ _ _ us hl => match us, hl with | [_, _], _ => rfl, m_lengths := PySem.W.mg_of X G a_lengths,
    a_ends := x_ends, d_ends := PySem.W.fnOf "ends" "ends" (defArgs s_ends) (defBody s_ends) (defScope s_ends) .none kV_ends dc_ends pm_ends an_ends cd_ends ct_ends, F_ends := fun_mk l_ends c_ends k_ends, b_ends := (fun_mk (st := s_ends) l_ends c_ends k_ends).binds (ps := ["part", "base"]) fun _ _ _ _ _ _ us hl => match us, hl with | [_, _], _ => rfl, m_ends := PySem.W.mg_of X G a_ends,
    a_digits := x_digits, d_digits := PySem.W.fnOf "digits" "digits" (defArgs s_digits) (defBody s_digits) (defScope s_digits) .none kV_digits dc_digits pm_digits an_digits cd_digits ct_digits, F_digits := fun_mk l_digits c_digits k_digits, b_digits := (fun_mk (st := s_digits) l_digits c_digits k_digits).binds (ps := ["part", "base"]) fun _ _ _ _ _ _ us hl => match us, hl with | [_, _], _ => rfl, m_digits := PySem.W.mg_of X G a_digits,
    a__law_mix := x__law_mix, d__law_mix := PySem.W.fnOf "_law_mix" "_law_mix" (defArgs s__law_mix) (defBody s__law_mix) (defScope s__law_mix) .none kV__law_mix dc__law_mix pm__law_mix an__law_mix cd__law_mix ct__law_mix, F__law_mix := fun_mk l__law_mix c__law_mix k__law_mix, b__law_mix := (fun_mk (st := s__law_mix) l__law_mix c__law_mix k__law_mix).binds (ps := ["draws", "k", "many"]) fun _ _ _ _ _ _ us hl => match us, hl with | [_, _, _], _ => rfl, m__law_mix := PySem.W.mg_of X G a__law_mix,
    a_check_numbers := x_check_numbers, d_check_numbers := PySem.W.fnOf "check_numbers" "check_numbers" (defArgs s_check_numbers) (defBody s_check_numbers) (defScope s_check_numbers) .none kV_check_numbers dc_check_numbers pm_check_numbers an_check_numbers cd_check_numbers ct_check_numbers, F_check_numbers := fun_mk l_check_numbers c_check_numbers k_check_numbers, b_check_numbers := (fun_mk (st := s_check_numbers) l_check_numbers c_check_numbers k_check_numbers).binds (ps := ["base", "told"]) fun _ _ _ _ _ _ us hl => match us, hl with | [_, _], _ => rfl, m_check_numbers := PySem.W.mg_of X G a_check_numbers,
    a_power_of := x_power_of, d_power_of := PySem.W.fnOf "power_of" "power_of" (defArgs s_power_of) (defBody s_power_of) (defScope s_power_of) .none kV_power_of dc_power_of pm_power_of an_power_of cd_power_of ct_power_of, F_power_of := fun_mk l_power_of c_power_of k_power_of, b_power_of := (fun_mk (st := s_power_of) l_power_of c_power_of k_power_of).binds (ps := ["base", "many"]) fun _ _ _ _ _ _ us hl => match us, hl with | [_, _], _ => rfl, m_power_of := PySem.W.mg_of X G a_power_of,
    a_comes_again := x_comes_again, d_comes_again := PySem.W.fnOf "comes_again" "comes_again" (defArgs s_comes_again) (defBody s_comes_again) (defScope s_comes_again) .none kV_comes_again dc_comes_again pm_comes_again an_comes_again cd_comes_again ct_comes_again, F_comes_again := fun_mk l_comes_again c_comes_again k_comes_again, b_comes_again := (fun_mk (st := s_comes_again) l_comes_again c_comes_again k_comes_again).binds (ps := ["number", "many", "base"]) fun _ _ _ _ _ _ us hl => match us, hl with | [_, _, _], _ => rfl, m_comes_again := PySem.W.mg_of X G a_comes_again,
    a_check_some := x_check_some, d_check_some := PySem.W.fnOf "check_some" "check_some" (defArgs s_check_some) (defBody s_check_some) (defScope s_check_some) .none kV_check_some dc_check_some pm_check_some an_check_some cd_check_some ct_check_some, F_check_some := fun_mk l_check_some c_check_some k_check_some, b_check_some := (fun_mk (st := s_check_some) l_check_some c_check_some k_check_some).binds (ps := ["part"]) fun _ _ _ _ _ _ us hl => match us, hl with | [_], _ => rfl, m_check_some := PySem.W.mg_of X G a_check_some,
    a_least_unit := x_least_unit, d_least_unit := PySem.W.fnOf "least_unit" "least_unit" (defArgs s_least_unit) (defBody s_least_unit) (defScope s_least_unit) .none kV_least_unit dc_least_unit pm_least_unit an_least_unit cd_least_unit ct_least_unit, F_least_unit := fun_mk l_least_unit c_least_unit k_least_unit, b_least_unit := (fun_mk (st := s_least_unit) l_least_unit c_least_unit k_least_unit).binds (ps := ["part"]) fun _ _ _ _ _ _ us hl => match us, hl with | [_], _ => rfl, m_least_unit := PySem.W.mg_of X G a_least_unit,
    a_fraction := x_fraction, d_fraction := PySem.W.fnOf "fraction" "fraction" (defArgs s_fraction) (defBody s_fraction) (defScope s_fraction) .none kV_fraction dc_fraction pm_fraction an_fraction cd_fraction ct_fraction, F_fraction := fun_mk l_fraction c_fraction k_fraction, b_fraction := (fun_mk (st := s_fraction) l_fraction c_fraction k_fraction).binds (ps := ["number", "by"]) fun _ _ _ _ _ _ us hl => match us, hl with | [_, _], _ => rfl, m_fraction := PySem.W.mg_of X G a_fraction,
    a_minus := x_minus, d_minus := PySem.W.fnOf "minus" "minus" (defArgs s_minus) (defBody s_minus) (defScope s_minus) .none kV_minus dc_minus pm_minus an_minus cd_minus ct_minus, F_minus := fun_mk l_minus c_minus k_minus, b_minus := (fun_mk (st := s_minus) l_minus c_minus k_minus).binds (ps := ["one", "two"]) fun _ _ _ _ _ _ us hl => match us, hl with | [_, _], _ => rfl, m_minus := PySem.W.mg_of X G a_minus,
    a_greedy := x_greedy, d_greedy := PySem.W.fnOf "greedy" "greedy" (defArgs s_greedy) (defBody s_greedy) (defScope s_greedy) .none kV_greedy dc_greedy pm_greedy an_greedy cd_greedy ct_greedy, F_greedy := fun_mk l_greedy c_greedy k_greedy, b_greedy := (fun_mk (st := s_greedy) l_greedy c_greedy k_greedy).binds (ps := ["part"]) fun _ _ _ _ _ _ us hl => match us, hl with | [_], _ => rfl, m_greedy := PySem.W.mg_of X G a_greedy,
    a_plus := x_plus, d_plus := PySem.W.fnOf "plus" "plus" (defArgs s_plus) (defBody s_plus) (defScope s_plus) .none kV_plus dc_plus pm_plus an_plus cd_plus ct_plus, F_plus := fun_mk l_plus c_plus k_plus, b_plus := (fun_mk (st := s_plus) l_plus c_plus k_plus).binds (ps := ["one", "two"]) fun _ _ _ _ _ _ us hl => match us, hl with | [_, _], _ => rfl, m_plus := PySem.W.mg_of X G a_plus,
    a_is_sum := x_is_sum, d_is_sum := PySem.W.fnOf "is_sum" "is_sum" (defArgs s_is_sum) (defBody s_is_sum) (defScope s_is_sum) .none kV_is_sum dc_is_sum pm_is_sum an_is_sum cd_is_sum ct_is_sum, F_is_sum := fun_mk l_is_sum c_is_sum k_is_sum, b_is_sum := (fun_mk (st := s_is_sum) l_is_sum c_is_sum k_is_sum).binds (ps := ["part", "told"]) fun _ _ _ _ _ _ us hl => match us, hl with | [_, _], _ => rfl, m_is_sum := PySem.W.mg_of X G a_is_sum,
    a_zeros_of := x_zeros_of, d_zeros_of := PySem.W.fnOf "zeros_of" "zeros_of" (defArgs s_zeros_of) (defBody s_zeros_of) (defScope s_zeros_of) .none kV_zeros_of dc_zeros_of pm_zeros_of an_zeros_of cd_zeros_of ct_zeros_of, F_zeros_of := fun_mk l_zeros_of c_zeros_of k_zeros_of, b_zeros_of := (fun_mk (st := s_zeros_of) l_zeros_of c_zeros_of k_zeros_of).binds (ps := ["number", "base"]) fun _ _ _ _ _ _ us hl => match us, hl with | [_, _], _ => rfl, m_zeros_of := PySem.W.mg_of X G a_zeros_of,
    a_zeros := x_zeros, d_zeros := PySem.W.fnOf "zeros" "zeros" (defArgs s_zeros) (defBody s_zeros) (defScope s_zeros) .none kV_zeros dc_zeros pm_zeros an_zeros cd_zeros ct_zeros, F_zeros := fun_mk l_zeros c_zeros k_zeros, b_zeros := (fun_mk (st := s_zeros) l_zeros c_zeros k_zeros).binds (ps := ["number", "base"]) fun _ _ _ _ _ _ us hl => match us, hl with | [_, _], _ => rfl, m_zeros := PySem.W.mg_of X G a_zeros,
    a_digits_of := x_digits_of, d_digits_of := PySem.W.fnOf "digits_of" "digits_of" (defArgs s_digits_of) (defBody s_digits_of) (defScope s_digits_of) .none kV_digits_of dc_digits_of pm_digits_of an_digits_of cd_digits_of ct_digits_of, F_digits_of := fun_mk l_digits_of c_digits_of k_digits_of, b_digits_of := (fun_mk (st := s_digits_of) l_digits_of c_digits_of k_digits_of).binds (ps := ["number", "base"]) fun _ _ _ _ _ _ us hl => match us, hl with | [_, _], _ => rfl, m_digits_of := PySem.W.mg_of X G a_digits_of,
    a_write_of := x_write_of, d_write_of := PySem.W.fnOf "write_of" "write_of" (defArgs s_write_of) (defBody s_write_of) (defScope s_write_of) .none kV_write_of dc_write_of pm_write_of an_write_of cd_write_of ct_write_of, F_write_of := fun_mk l_write_of c_write_of k_write_of, b_write_of := (fun_mk (st := s_write_of) l_write_of c_write_of k_write_of).binds (ps := ["number", "base"]) fun _ _ _ _ _ _ us hl => match us, hl with | [_, _], _ => rfl, m_write_of := PySem.W.mg_of X G a_write_of,
    a_power_rest := x_power_rest, d_power_rest := PySem.W.fnOf "power_rest" "power_rest" (defArgs s_power_rest) (defBody s_power_rest) (defScope s_power_rest) .none kV_power_rest dc_power_rest pm_power_rest an_power_rest cd_power_rest ct_power_rest, F_power_rest := fun_mk l_power_rest c_power_rest k_power_rest, b_power_rest := (fun_mk (st := s_power_rest) l_power_rest c_power_rest k_power_rest).binds (ps := ["number", "exponent", "by"]) fun _ _ _ _ _ _ us hl => match us, hl with | [_, _, _], _ => rfl, m_power_rest := PySem.W.mg_of X G a_power_rest,
    a_last_digits := x_last_digits, d_last_digits := PySem.W.fnOf "last_digits" "last_digits" (defArgs s_last_digits) (defBody s_last_digits) (defScope s_last_digits) .none kV_last_digits dc_last_digits pm_last_digits an_last_digits cd_last_digits ct_last_digits, F_last_digits := fun_mk l_last_digits c_last_digits k_last_digits, b_last_digits := (fun_mk (st := s_last_digits) l_last_digits c_last_digits k_last_digits).binds (ps := ["number", "exponent", "many", "base"]) fun _ _ _ _ _ _ us hl => match us, hl with | [_, _, _, _], _ => rfl, m_last_digits := PySem.W.mg_of X G a_last_digits,
    a_read_of := x_read_of, d_read_of := PySem.W.fnOf "read_of" "read_of" (defArgs s_read_of) (defBody s_read_of) (defScope s_read_of) .none kV_read_of dc_read_of pm_read_of an_read_of cd_read_of ct_read_of, F_read_of := fun_mk l_read_of c_read_of k_read_of, b_read_of := (fun_mk (st := s_read_of) l_read_of c_read_of k_read_of).binds (ps := ["text", "base"]) fun _ _ _ _ _ _ us hl => match us, hl with | [_, _], _ => rfl, m_read_of := PySem.W.mg_of X G a_read_of,
    a_part_of := x_part_of, d_part_of := PySem.W.fnOf "part_of" "part_of" (defArgs s_part_of) (defBody s_part_of) (defScope s_part_of) .none kV_part_of dc_part_of pm_part_of an_part_of cd_part_of ct_part_of, F_part_of := fun_mk l_part_of c_part_of k_part_of, b_part_of := (fun_mk (st := s_part_of) l_part_of c_part_of k_part_of).binds (ps := ["ahead", "again", "base"]) fun _ _ _ _ _ _ us hl => match us, hl with | [_, _, _], _ => rfl, m_part_of := PySem.W.mg_of X G a_part_of,
    a_law := x_law, d_law := PySem.W.fnOf "law" "law" (defArgs s_law) (defBody s_law) (defScope s_law) .none kV_law dc_law pm_law an_law cd_law ct_law, F_law := fun_mk l_law c_law k_law, b_law := (fun_mk (st := s_law) l_law c_law k_law).binds (ps := ["script"]) fun _ _ _ _ _ _ us hl => match us, hl with | [_], _ => rfl, m_law := PySem.W.mg_of X G a_law,
    z_abs := PySem.W.mg_none_of X G z_abs,
    z_all := PySem.W.mg_none_of X G z_all,
    z_enumerate := PySem.W.mg_none_of X G z_enumerate,
    z_int := PySem.W.mg_none_of X G z_int,
    z_len := PySem.W.mg_none_of X G z_len,
    z_max := PySem.W.mg_none_of X G z_max,
    z_min := PySem.W.mg_none_of X G z_min,
    z_range := PySem.W.mg_none_of X G z_range,
    z_tuple := PySem.W.mg_none_of X G z_tuple,
    z_zip := PySem.W.mg_none_of X G z_zip,
    c_DIGITS := ⟨_, PySem.W.mg_of X G q_DIGITS⟩,
    c_GREATEST_BASE := ⟨_, PySem.W.mg_of X G q_GREATEST_BASE⟩,
    c_LEAST_BASE := ⟨_, PySem.W.mg_of X G q_LEAST_BASE⟩,
    c_MOST_AGAIN := ⟨_, PySem.W.mg_of X G q_MOST_AGAIN⟩,
    c_MOST_BASE := ⟨_, PySem.W.mg_of X G q_MOST_BASE⟩,
    c_MOST_DIGITS := ⟨_, PySem.W.mg_of X G q_MOST_DIGITS⟩,
    c_MOST_LISTED := ⟨_, PySem.W.mg_of X G q_MOST_LISTED⟩,
    c_MOST_NUMBER := ⟨_, PySem.W.mg_of X G q_MOST_NUMBER⟩,
    c_MOST_SECOND := ⟨_, PySem.W.mg_of X G q_MOST_SECOND⟩,
    b_gcd := PySem.W.mg_of X G q_gcd }, ?_, fun s u => .of_eq rfl⟩
  cases e
  rfl
end LW

set_option Elab.async false
set_option linter.all false
/-! M0: plain lemmas over the mirrors' combinators. -/
namespace PL
variable {Γ Γ' Γb ρ τ α β ι : Type}
theorem seqO_nx {s : Γ} {k : Γ → Option (Out Γ' ρ)} : seqO (some (.nx s)) k = k s := of_eq_true (eq_true rfl)
theorem seqO_rt {r : ρ} {k : Γ → Option (Out Γ' ρ)} : seqO (some (.rt r)) k = some (.rt r) := of_eq_true (eq_true rfl)
theorem seqO_none {k : Γ → Option (Out Γ' ρ)} : seqO none k = none := of_eq_true (eq_true rfl)
theorem outF_rt {d : Option ρ} {r : ρ} : outF d (some (.rt r : Out Γ ρ)) = some r := of_eq_true (eq_true rfl)
theorem outF_nx {d : Option ρ} {s : Γ} : outF d (some (.nx s : Out Γ ρ)) = d := of_eq_true (eq_true rfl)
theorem bsome {a : α} {f : α → Option β} : (some a).bind f = f a := of_eq_true (eq_true rfl)
theorem whileO_zero {c : Γ → Option Bool} {b : Γ → Option (Out Γ ρ)} {g : Γ} : whileO c b 0 g = none := of_eq_true (eq_true rfl)
theorem whileO_succ {c : Γ → Option Bool} {b : Γ → Option (Out Γ ρ)} {n : Nat} {g : Γ} : whileO c b (n + 1) g = (c g).bind fun t => if t = true then seqO (b g) (whileO c b n) else some (.nx g) := of_eq_true (eq_true rfl)
theorem forO_nil {set : Γ → ι → Γb} {b : Γb → Option (Out Γ ρ)} {g : Γ} : forO set b [] g = some (.nx g) := of_eq_true (eq_true rfl)
theorem forO_cons {set : Γ → ι → Γb} {b : Γb → Option (Out Γ ρ)} {x : ι} {xs : List ι} {g : Γ} : forO set b (x :: xs) g = seqO (b (set g x)) (forO set b xs) := of_eq_true (eq_true rfl)
theorem iMod_eq {x y : Int} (h : 0 < y) : iMod x y = some (x % y) := if_pos h
theorem log2_lt64 {x : Int} {n : Nat} (h1 : -(2 ^ n) < x) (h2 : x < 2 ^ n) (hn : 0 < n) : x.natAbs.log2 < n := by
  have hp : ((2 : Int) ^ n) = ((2 ^ n : Nat) : Int) := by simp
  by_cases h : x.natAbs = 0
  · rw [h]; simp; exact hn
  · rw [Nat.log2_lt h]
    omega
theorem iDiv_eq {x y : Int} (h : 0 < y) (h2 : y < 2 ^ 64) : iDiv x y = some (x / y) := if_pos ⟨h, Nat.lt_of_lt_of_le (log2_lt64 (n := 64) (by omega) h2 (by decide)) (by decide)⟩
theorem iMul_eq {x y : Int} (h1 : -(2 ^ 64) < x ∧ x < 2 ^ 64) (h2 : -(2 ^ 64) < y ∧ y < 2 ^ 64) : iMul x y = some (x * y) := by
  have a := log2_lt64 (n := 64) h1.1 h1.2 (by decide)
  have b := log2_lt64 (n := 64) h2.1 h2.2 (by decide)
  exact if_pos (by omega)
theorem iMul_bits {x y : Int} (h : x.natAbs.log2 + y.natAbs.log2 < 1000000) : iMul x y = some (x * y) := if_pos h
theorem sizeLine_val : PySem.sizeLine = 16777216 := by decide
theorem push_eq {l : List τ} {t : τ} (h : l.length < 16777216) : push l t = some (l ++ [t]) := if_pos (by rw [sizeLine_val]; exact h)
theorem lNew_eq {l : List τ} (h : l.length ≤ 16777216) : lNew l = some l := if_pos (by rw [sizeLine_val]; exact h)
theorem lCat_eq {l r : List τ} (h : l.length + r.length ≤ 16777216) : lCat l r = some (l ++ r) := if_pos (by rw [sizeLine_val]; exact h)
theorem tCat_eq {l r : Tx} (h : l.cs.length + r.cs.length ≤ 16777216) : tCat l r = some ⟨l.cs ++ r.cs⟩ := if_pos (by rw [sizeLine_val]; exact h)
theorem rng1_eq {j : Int} (h : j < 2 ^ 62) (h0 : -(2 ^ 62) ≤ j) : rng1 j = some (rng 0 j.toNat) := if_pos ⟨h0, h⟩
theorem rng2_eq {i j : Int} (h : -(2 ^ 62) ≤ i ∧ i < 2 ^ 62) (h' : -(2 ^ 62) ≤ j ∧ j < 2 ^ 62) : rng2 i j = some (rng i (j - i).toNat) := if_pos ⟨h, h'⟩
theorem rng_mem {lo x : Int} {n : Nat} (h : x ∈ rng lo n) : lo ≤ x ∧ x < lo + n := by
  unfold rng at h
  obtain ⟨i, hi, rfl⟩ := List.mem_map.mp h
  have := List.mem_range.mp hi
  omega
theorem rng_zero {lo : Int} : rng lo 0 = [] := rfl
theorem rng_succ {lo : Int} {n : Nat} : rng lo (n + 1) = lo :: rng (lo + 1) n := by
  unfold rng
  rw [List.range_succ_eq_map, List.map_cons, List.map_map]
  congr 1
  · simp
  · exact List.map_congr_left fun i _ => by simp only [Function.comp]; omega
theorem atI_some {l : List τ} {i : Int} (h : 0 ≤ i) (h2 : i < l.length) : ∃ x, L2.atI l i = some x ∧ x ∈ l := by
  have hi : i.toNat < l.length := by omega
  refine ⟨l[i.toNat], ?_, List.getElem_mem hi⟩
  have h3 := L2.atI_nat (xs := l) (j := i.toNat) (v := l[i.toNat]) (by simp)
  rw [Int.toNat_of_nonneg h] at h3
  exact h3
/-- a for that goes through, by an invariant over the items behind -/
theorem forO_all {set : Γ → ι → Γb} {b : Γb → Option (Out Γ ρ)} (I : Nat → Γ → Prop) : ∀ (xs : List ι) (i : Nat) (g : Γ), I i g → (∀ j x g, xs[j]? = some x → I (i + j) g → ∃ g', b (set g x) = some (.nx g') ∧ I (i + j + 1) g') → ∃ g', forO set b xs g = some (.nx g') ∧ I (i + xs.length) g'
  | [], i, g, h, _ => ⟨g, rfl, h⟩
  | x :: xs, i, g, h, st => by
    obtain ⟨g1, e1, h1⟩ := st 0 x g rfl h
    obtain ⟨g2, e2, h2⟩ := forO_all I xs (i + 1) g1 h1 fun j y g hy hI => by
      have := st (j + 1) y g hy (by rw [show i + (j + 1) = i + 1 + j by omega]; exact hI)
      rw [show i + 1 + j + 1 = i + (j + 1) + 1 by omega]
      exact this
    refine ⟨g2, ?_, by rw [List.length_cons, show i + (xs.length + 1) = i + 1 + xs.length by omega]; exact h2⟩
    rw [forO_cons, e1, seqO_nx]
    exact e2
/-- a for whose state is told by the turn -/
theorem forO_eq {set : Γ → ι → Γb} {b : Γb → Option (Out Γ ρ)} (G : Nat → Γ) (xs : List ι) (st : ∀ j x, xs[j]? = some x → b (set (G j) x) = some (.nx (G (j + 1)))) : forO set b xs (G 0) = some (.nx (G xs.length)) := by
  obtain ⟨g, e, h⟩ := forO_all (fun i g => g = G i) xs 0 (G 0) rfl fun j x g hx hg => by
    have hg : g = G (0 + j) := hg
    rw [Nat.zero_add] at hg
    subst hg
    exact ⟨_, st j x hx, by rw [Nat.zero_add]⟩
  have h : g = G (0 + xs.length) := h
  rw [Nat.zero_add] at h
  rw [e, h]
theorem forO_same {set : Γ → ι → Γb} {b : Γb → Option (Out Γ ρ)} {g : Γ} {xs : List ι} (st : ∀ x ∈ xs, b (set g x) = some (.nx g)) : forO set b xs g = some (.nx g) :=
  forO_eq (fun _ => g) xs fun j x hx => st x (List.mem_of_getElem? hx)
/-- a while, by an invariant and a measure -/
theorem whileO_all {c : Γ → Option Bool} {b : Γ → Option (Out Γ ρ)} (I : Γ → Prop) (m : Γ → Nat) (st : ∀ g, I g → c g = some false ∨ (c g = some true ∧ ∃ g', b g = some (.nx g') ∧ I g' ∧ m g' < m g)) : ∀ (n : Nat) (g : Γ), I g → m g < n → ∃ g', whileO c b n g = some (.nx g') ∧ I g' ∧ c g' = some false
  | 0, g, _, h => absurd h (Nat.not_lt_zero _)
  | n + 1, g, hI, hm => by
    rw [whileO_succ]
    rcases st g hI with h | ⟨h, g', e, hI', hm'⟩
    · exact ⟨g, by rw [h]; rfl, hI, h⟩
    · obtain ⟨g2, e2, r⟩ := whileO_all I m st n g' hI' (by omega)
      exact ⟨g2, by rw [h, bsome, if_pos rfl, e, seqO_nx]; exact e2, r⟩
/-- a while whose state is told by the turn -/
theorem whileO_eq {c : Γ → Option Bool} {b : Γ → Option (Out Γ ρ)} (G : Nat → Γ) (N : Nat) (st : ∀ j, j < N → c (G j) = some true ∧ b (G j) = some (.nx (G (j + 1)))) (en : c (G N) = some false) : ∀ (n : Nat), N < n → whileO c b n (G 0) = some (.nx (G N)) := by
  have go : ∀ (k j n : Nat), j + k = N → k < n → whileO c b n (G j) = some (.nx (G N)) := by
    intro k
    induction k with
    | zero =>
      intro j n hj hn
      obtain ⟨n, rfl⟩ : ∃ m, n = m + 1 := ⟨n - 1, by omega⟩
      have : j = N := by omega
      subst this
      rw [whileO_succ, en]
      rfl
    | succ k ih =>
      intro j n hj hn
      obtain ⟨n, rfl⟩ : ∃ m, n = m + 1 := ⟨n - 1, by omega⟩
      obtain ⟨h1, h2⟩ := st j (by omega)
      rw [whileO_succ, h1, bsome, if_pos rfl, h2, seqO_nx]
      exact ih (j + 1) n (by omega) (by omega)
  exact fun n hn => go N 0 n (Nat.zero_add _) hn
end PL

set_option Elab.async false
set_option linter.all false
set_option maxRecDepth 100000
namespace PL
open PySem
theorem dNin_int (x : Int) (ys : List Int) : dNin x ys = some (!decide (x ∈ ys)) := by
  unfold dNin
  rw [if_pos]
  refine ⟨rfl, ?_⟩
  show ys.all (fun _ => true) = true
  simp
theorem at_last {l : List Int} {x : Int} : L2.atI (l ++ [x]) (-1) = some x := L2.atI_last l x
theorem compO_eq {Γb ι τ : Type} {t : Γb → Option Bool} {f : Γb → Option τ} {set : ι → Γb} {p : ι → Bool} {h : ι → τ} : ∀ {xs : List ι}, (∀ x ∈ xs, t (set x) = some (p x)) → (∀ x ∈ xs, p x = true → f (set x) = some (h x)) → compO t f set xs = some ((xs.filter p).map h)
  | [], _, _ => rfl
  | x :: xs, h1, h2 => by
    have ih := compO_eq (xs := xs) (fun y hy => h1 y (List.mem_cons_of_mem _ hy)) (fun y hy => h2 y (List.mem_cons_of_mem _ hy))
    rw [compO, h1 x List.mem_cons_self, bsome]
    by_cases hp : p x = true
    · rw [if_pos hp, h2 x List.mem_cons_self hp, bsome, ih, bsome, List.filter_cons_of_pos hp, List.map_cons]
    · rw [if_neg hp, ih, List.filter_cons_of_neg hp]
theorem cast_mod (a b : Nat) : ((a : Nat) : Int) % ((b : Nat) : Int) = ((a % b : Nat) : Int) := by push_cast; rfl
theorem cast_div (a b : Nat) : ((a : Nat) : Int) / ((b : Nat) : Int) = ((a / b : Nat) : Int) := by push_cast; rfl
theorem bret {α : Type} {x : Option α} : (x.bind fun y => some y) = x := by cases x <;> rfl
theorem jL_one : ∀ l : List Nat, jL [] (l.map fun c => [c]) = l
  | [] => rfl
  | [c] => rfl
  | c :: d :: l => by
    have h := jL_one (d :: l)
    show [c] ++ ([] ++ jL [] ((d :: l).map fun c => [c])) = _
    rw [h]
    rfl
theorem compO_all {Γb ι τ : Type} {t : Γb → Option Bool} {f : Γb → Option τ} {set : ι → Γb} {h : ι → τ} : ∀ {xs : List ι}, (∀ x ∈ xs, t (set x) = some true) → (∀ x ∈ xs, f (set x) = some (h x)) → compO t f set xs = some (xs.map h)
  | [], _, _ => rfl
  | x :: xs, h1, h2 => by
    have ih := compO_all (xs := xs) (fun y hy => h1 y (List.mem_cons_of_mem _ hy)) (fun y hy => h2 y (List.mem_cons_of_mem _ hy))
    rw [compO, h1 x List.mem_cons_self, bsome, if_pos rfl, h2 x List.mem_cons_self, bsome, ih, bsome, List.map_cons]
theorem rShow_tx {t : Tx} (h : t.cs.length ≤ 1000) (h2 : ∀ c ∈ t.cs, c < 1000) : ∃ r, rShow t = some r := by
  refine ⟨_, if_pos ⟨rfl, rfl, ?_, by show 0 ≤ 32; omega⟩⟩
  have := StrLaws.reprText_len ⟨t.cs.toArray⟩ (fun c hc => Nat.lt_trans (h2 c (by simpa using hc)) (by decide))
  have e : (⟨t.cs.toArray⟩ : Str).length = t.cs.length := by show t.cs.toArray.size = _; simp
  rw [e] at this
  show (reprText ⟨t.cs.toArray⟩).length ≤ sizeLine
  rw [sizeLine_val]
  omega
theorem rShow_int {i : Int} (h : i.natAbs.log2 < 1920) : ∃ r, rShow i = some r := by
  refine ⟨_, if_pos ⟨?_, rfl, ?_, by show 0 ≤ 32; omega⟩⟩
  · show decide (i.natAbs.log2 < 1920) = true
    exact decide_eq_true h
  · have := PyProof.Rows.int_text_len_1921 h
    show (PySem.Str.ofString (toString i)).length ≤ sizeLine
    rw [sizeLine_val]
    omega
theorem rShow_pair {i j : Int} (h : i.natAbs.log2 < 1920) (h2 : j.natAbs.log2 < 1920) : ∃ r, rShow (T2.mk i j) = some r := by
  refine ⟨_, if_pos ⟨?_, rfl, ?_, by show 1 ≤ 32; omega⟩⟩
  · show (decide (i.natAbs.log2 < 1920) && (decide (j.natAbs.log2 < 1920) && true)) = true
    rw [decide_eq_true h, decide_eq_true h2]
    rfl
  · have q1 := PyProof.Rows.int_text_len_1921 h
    have q2 := PyProof.Rows.int_text_len_1921 h2
    show (("(" : Str) ++ ((PySem.Str.ofString (toString i)) ++ ", " ++ (PySem.Str.ofString (toString j))) ++ (")" : String)).length ≤ sizeLine
    rw [strLen_append, strLen_append, strLen_append, strLen_append, sizeLine_val]
    have e1 : (("(" : String) : Str).length = 1 := rfl
    have e2 : ((", " : String) : Str).length = 2 := rfl
    have e3 : ((")" : String) : Str).length = 1 := rfl
    rw [e1, e2, e3]
    omega
theorem rShow_none : ∃ r, rShow (none : Option Int) = some r := by
  refine ⟨_, if_pos ⟨rfl, rfl, ?_, by show 0 ≤ 32; omega⟩⟩
  show (("None" : String) : Str).length ≤ sizeLine
  rw [sizeLine_val]
  decide
theorem iMul_nat {A B : Nat} (hA : A < 2 ^ 64) (hB : B < 2 ^ 64) : iMul (A : Int) (B : Int) = some ((A * B : Nat) : Int) := by
  rw [iMul_eq (by omega) (by omega)]
  push_cast
  rfl
theorem atI_head (L : List Int) : L2.atI ((L.map fun t => some (id t)) ++ [(none : Option Int)]) 0 = some L.head? := by
  cases L with
  | nil => rfl
  | cons a L => exact L2.atI_nat (j := 0) rfl
theorem rShow_opt {x : Option Int} (h : ∀ i, x = some i → i.natAbs.log2 < 1920) : ∃ r, rShow x = some r := by
  cases x with
  | none => exact rShow_none
  | some i => exact rShow_int (h i rfl)
theorem pigeon : ∀ (d : Nat) (l : List Nat), (∀ x ∈ l, x < d) → l.Nodup → l.length ≤ d
  | 0, l, h, _ => by
    cases l with
    | nil => exact Nat.le_refl 0
    | cons a l => have := h a List.mem_cons_self; omega
  | d + 1, l, h, n => by
    by_cases hm : d ∈ l
    · have n2 : (l.erase d).Nodup := n.erase d
      have q := pigeon d (l.erase d) (fun x hx => by
        have h1 := (List.Nodup.mem_erase_iff n).mp hx
        have := h x h1.2
        have := h1.1
        omega) n2
      rw [List.length_erase_of_mem hm] at q
      omega
    · have q := pigeon d l (fun x hx => by
        have := h x hx
        have : x ≠ d := fun z => hm (z ▸ hx)
        omega) n
      omega
theorem dvd_pw {n P : Nat} (h : 0 < P) : n ∣ n ^ P := by
  obtain ⟨k, rfl⟩ : ∃ k, P = k + 1 := ⟨P - 1, by omega⟩
  rw [Nat.pow_succ]
  exact Nat.dvd_mul_left n (n ^ k)
theorem cancel_le {n d x y : Nat} (hc : Nat.Coprime d n) (hxy : y ≤ x) (h : n * x % d = n * y % d) : x % d = y % d := by
  have h1 : d ∣ n * x - n * y := Nat.dvd_of_mod_eq_zero (Nat.sub_mod_eq_zero_of_mod_eq h)
  rw [← Nat.mul_sub] at h1
  have h2 : d ∣ x - y := Nat.Coprime.dvd_of_dvd_mul_left hc h1
  obtain ⟨c, e⟩ := h2
  rw [show x = y + d * c by omega, Nat.add_mul_mod_self_left]
theorem cancel {n d x y : Nat} (hc : Nat.Coprime d n) (h : n * x % d = n * y % d) : x % d = y % d := by
  rcases Nat.le_total y x with q | q
  · exact cancel_le hc q h
  · exact (cancel_le hc q h.symm).symm
theorem gcd_cast (a b : Nat) : (Nat.gcd ((a : Int)).natAbs ((b : Int)).natAbs : Nat) = Nat.gcd a b := by simp
theorem cut_to {τ : Type} {xs : List τ} {k : Nat} : cut xs none (some (k : Int)) = xs.take k := by
  unfold cut
  rw [HT.sIx_none, HT.sIx_nat, List.drop_zero, Nat.sub_zero, List.take_eq_take_iff]
  omega
theorem cut_from {τ : Type} {xs : List τ} {k : Nat} : cut xs (some (k : Int)) none = xs.drop k := by
  unfold cut
  rw [HT.sIx_none, HT.sIx_nat]
  by_cases h : k ≤ xs.length
  · rw [Nat.min_eq_left h, List.take_of_length_le (by rw [List.length_drop]; omega)]
  · rw [Nat.min_eq_right (by omega), List.drop_of_length_le (Nat.le_refl _), List.drop_of_length_le (by omega), List.take_nil]
theorem cutT_eq {t : Tx} {lo hi : Option Int} (h : t.cs.length ≤ 16777216) : cutT t lo hi = some ⟨cut t.cs lo hi⟩ := if_pos (by rw [sizeLine_val]; exact h)
theorem iMod_nat {a b : Nat} (h : 0 < b) : iMod (a : Int) (b : Int) = some ((a % b : Nat) : Int) := by rw [iMod_eq (by omega), cast_mod]
theorem iDiv_bits {x y : Int} (h : 0 < y) (h2 : y.natAbs.log2 < 9000) : iDiv x y = some (x / y) := if_pos ⟨h, h2⟩
theorem iDiv_nat {a b : Nat} (h : 0 < b) (h2 : b < 2 ^ 64) : iDiv (a : Int) (b : Int) = some ((a / b : Nat) : Int) := by rw [iDiv_eq (by omega) (by omega), cast_div]
theorem log2_lt_pow {a k : Nat} (h : a < 2 ^ k) : a.log2 < k + 1 := by
  by_cases h0 : a = 0
  · rw [h0]; simp
  · rw [Nat.log2_lt h0, Nat.pow_succ]; omega
theorem iMul_big {a b k m : Nat} (ha : a < 2 ^ k) (hb : b < 2 ^ m) (h : k + m < 999998) : iMul (a : Int) (b : Int) = some ((a * b : Nat) : Int) := by
  have h1 := log2_lt_pow ha
  have h2 := log2_lt_pow hb
  rw [iMul_bits (by simp only [Int.natAbs_natCast]; omega)]
  push_cast
  rfl
theorem iDiv_big {a b k : Nat} (h0 : 0 < b) (hb : b < 2 ^ k) (h : k < 8990) : iDiv (a : Int) (b : Int) = some ((a / b : Nat) : Int) := by
  have h1 := log2_lt_pow hb
  rw [iDiv_bits (by omega) (by simp only [Int.natAbs_natCast]; omega), cast_div]
end PL

set_option Elab.async false
set_option linter.all false
set_option maxRecDepth 100000
namespace PL
/-- how many digits stand ahead, and the number without primes of the base, by fuel -/
def spA (n : Nat) : Nat → Nat → Nat
  | 0, _ => 0
  | f + 1, d => if 1 < Nat.gcd d n then spA n f (d / Nat.gcd d n) + 1 else 0
def spR (n : Nat) : Nat → Nat → Nat
  | 0, d => d
  | f + 1, d => if 1 < Nat.gcd d n then spR n f (d / Nat.gcd d n) else d
structure Spl (n d a r : Nat) : Prop where
  pos : 0 < r
  cop : Nat.Coprime r n
  dvd : r ∣ d
  key : ∀ i j, i < j → (n ^ i % d = n ^ j % d ↔ a ≤ i ∧ n ^ (j - i) % r = 1 % r)
  one : r = 1 → d ∣ n ^ a
theorem cop_pow_cancel {n d i k : Nat} (hc : Nat.Coprime d n) : n ^ i % d = n ^ (i + k) % d ↔ n ^ k % d = 1 % d := by
  constructor
  · intro h
    have h2 : n ^ i * 1 % d = n ^ i * n ^ k % d := by rw [Nat.mul_one, ← Nat.pow_add]; exact h
    exact (cancel (Nat.Coprime.pow_right i hc) h2).symm
  · intro h
    rw [Nat.pow_add, Nat.mul_mod, h, ← Nat.mul_mod, Nat.mul_one]
theorem spl_ok {n : Nat} : ∀ (f d : Nat), 0 < d → d < 2 ^ f → Spl n d (spA n f d) (spR n f d)
  | 0, d, h, h2 => by simp at h2; omega
  | f + 1, d, h, h2 => by
    by_cases hg : 1 < Nat.gcd d n
    · have hgd : Nat.gcd d n ∣ d := Nat.gcd_dvd_left d n
      have hgn : Nat.gcd d n ∣ n := Nat.gcd_dvd_right d n
      have hle : Nat.gcd d n ≤ d := Nat.le_of_dvd h hgd
      have hp : 0 < d / Nat.gcd d n := Nat.div_pos hle (by omega)
      have hlt : d / Nat.gcd d n < 2 ^ f := by
        rw [Nat.div_lt_iff_lt_mul (by omega)]
        rw [Nat.pow_succ] at h2
        exact Nat.lt_of_lt_of_le h2 (Nat.mul_le_mul_left _ hg)
      have S := spl_ok (n := n) f (d / Nat.gcd d n) hp hlt
      rw [spA, spR, if_pos hg, if_pos hg]
      generalize hA : spA n f (d / Nat.gcd d n) = a at *
      generalize hR : spR n f (d / Nat.gcd d n) = r at *
      have hc : Nat.Coprime (d / Nat.gcd d n) (n / Nat.gcd d n) := Nat.coprime_div_gcd_div_gcd (by omega)
      generalize hgg : Nat.gcd d n = g at *
      obtain ⟨d', rfl⟩ := hgd
      obtain ⟨n', rfl⟩ := hgn
      rw [Nat.mul_div_cancel_left _ (by omega)] at *
      rw [Nat.mul_div_cancel_left _ (by omega)] at hc
      refine ⟨S.pos, S.cop, Nat.dvd_trans S.dvd (Nat.dvd_mul_left _ _), fun i j hij => ?_, fun e => ?_⟩
      · cases i with
        | zero =>
          constructor
          · intro e
            exfalso
            obtain ⟨j, rfl⟩ : ∃ k, j = k + 1 := ⟨j - 1, by omega⟩
            rw [Nat.pow_zero] at e
            have hd1 : 1 < g * d' := by omega
            rw [Nat.mod_eq_of_lt hd1] at e
            have h3 : g ∣ (g * n') ^ (j + 1) := Nat.dvd_trans (Nat.dvd_mul_right g n') (dvd_pw (by omega))
            have h4 := (Nat.dvd_mod_iff (Nat.dvd_mul_right g d')).mpr h3
            rw [← e] at h4
            have := Nat.dvd_one.mp h4
            omega
          · rintro ⟨e, _⟩; omega
        | succ i =>
          obtain ⟨j, rfl⟩ : ∃ k, j = k + 1 := ⟨j - 1, by omega⟩
          have q : ∀ k, (g * n') ^ (k + 1) % (g * d') = g * (n' * (g * n') ^ k % d') := fun k => by
            rw [Nat.pow_succ, show (g * n') ^ k * (g * n') = g * (n' * (g * n') ^ k) by rw [Nat.mul_comm, Nat.mul_assoc], Nat.mul_mod_mul_left]
          rw [q, q, show j + 1 - (i + 1) = j - i by omega]
          have k1 := S.key i j (by omega)
          constructor
          · intro e
            have e2 := Nat.eq_of_mul_eq_mul_left (by omega) e
            obtain ⟨k2, k3⟩ := k1.mp (cancel hc e2)
            exact ⟨by omega, k3⟩
          · rintro ⟨e1, e2⟩
            have e3 := k1.mpr ⟨by omega, e2⟩
            rw [Nat.mul_mod, e3, ← Nat.mul_mod]
      · have := S.one e
        rw [Nat.pow_succ, Nat.mul_comm]
        exact Nat.mul_dvd_mul this (Nat.dvd_mul_right g n')
    · rw [spA, spR, if_neg hg, if_neg hg]
      have hc : Nat.Coprime d n := by
        have : 0 < Nat.gcd d n := Nat.gcd_pos_of_pos_left n h
        show Nat.gcd d n = 1
        omega
      refine ⟨h, hc, Nat.dvd_refl d, fun i j hij => ?_, fun e => by rw [e]; exact Nat.one_dvd _⟩
      have := cop_pow_cancel (i := i) (k := j - i) hc
      rw [show i + (j - i) = j by omega] at this
      rw [this]
      exact ⟨fun e => ⟨Nat.zero_le _, e⟩, fun e => e.2⟩
theorem Spl.zero {n d a r : Nat} (S : Spl n d a r) {k : Nat} (hk : a ≤ k) : n ^ k % d = 0 ↔ r = 1 := by
  constructor
  · intro h
    have h1 : r ∣ n ^ k := Nat.dvd_trans S.dvd (Nat.dvd_of_mod_eq_zero h)
    exact Nat.Coprime.eq_one_of_dvd (Nat.Coprime.pow_right k S.cop) h1
  · intro h
    obtain ⟨j, rfl⟩ : ∃ j, k = a + j := ⟨k - a, by omega⟩
    rw [Nat.pow_add]
    exact Nat.mod_eq_zero_of_dvd (Nat.dvd_trans (S.one h) (Nat.dvd_mul_right _ _))
/-- the order of n by r -/
structure IsO (n r o : Nat) : Prop where
  pos : 0 < o
  one : n ^ o % r = 1 % r
  min : ∀ k, 0 < k → k < o → n ^ k % r ≠ 1 % r
end PL

set_option Elab.async false
set_option linter.all false
namespace LW
open PL
def BdD (l : List Int) : Prop := ∀ x ∈ l, 0 ≤ x ∧ x < 65536
theorem BdD.app {l : List Int} {x : Int} (h : BdD l) (h0 : 0 ≤ x) (h1 : x < 65536) : BdD (l ++ [x]) := fun y hy => by
  rcases List.mem_append.mp hy with hy | hy
  · exact h y hy
  · have e : y = x := by simpa using hy
    rw [e]; exact ⟨h0, h1⟩
theorem draws_lp0 {ns ds : List Int} {k r t : Int} (hl : ds.length < 4000) (hb : BdD ds) (hr : 0 ≤ r) :
    ∃ ds' r', lp__law_draws_0 ⟨ns, ds, k, r, t, 0⟩ = some (.nx ⟨ns, ds', k, r', 0, 0⟩) ∧ ds'.length ≤ ds.length + 1 ∧ BdD ds' ∧ 0 ≤ r' := by
  unfold lp__law_draws_0
  simp only [bsome]
  by_cases h : r > 0
  · rw [decide_eq_true h]
    simp only [if_pos, bsome, seqO_nx]
    rw [iMod_eq (by decide)]
    simp only [bsome]
    rw [push_eq (by omega)]
    simp only [bsome, seqO_nx]
    rw [iDiv_eq (by decide) (by decide)]
    simp only [bsome, seqO_nx]
    exact ⟨_, _, rfl, by simp, hb.app (by omega) (by omega), by omega⟩
  · rw [decide_eq_false h]
    simp only [Bool.false_eq_true, if_false, seqO_nx]
    exact ⟨_, _, rfl, by omega, hb, hr⟩
theorem draws_lp1 {ns ds : List Int} {k : Int} (hk : 0 ≤ k) (hk2 : k < ns.length) (hk3 : k < 63) (hl : ds.length ≤ 60 * k.toNat) (hb : BdD ds) :
    ∃ ds', lp__law_draws_1 ⟨ns, ds, k, 0, 0, 0⟩ = some (.nx ⟨ns, ds', 0, 0, 0, 0⟩) ∧ ds'.length ≤ 60 * (k.toNat + 1) ∧ BdD ds' := by
  unfold lp__law_draws_1
  obtain ⟨x, hx, _⟩ := atI_some hk hk2
  simp only [bsome, hx, seqO_nx]
  rw [show iPow 10 18 = some 1000000000000000000 by decide +kernel]
  simp only [bsome]
  by_cases h : (x.natAbs : Int) ≥ 1000000000000000000
  · rw [decide_eq_true h]
    simp only [if_pos, seqO_nx]
    rw [rng1_eq (by decide) (by decide)]
    simp only [bsome]
    obtain ⟨g, e, ds', r', rfl, h1, h2, h3⟩ := forO_all (set := fun (s : S__law_draws) (t : Int) => (⟨s.1, s.2, s.3, s.4, t, s.6⟩ : S__law_draws)) (b := lp__law_draws_0) (fun i g => ∃ ds' r', g = ⟨ns, ds', k, r', 0, 0⟩ ∧ ds'.length ≤ ds.length + i ∧ BdD ds' ∧ 0 ≤ r') (rng 0 (Int.toNat 60)) 0 ⟨ns, ds, k, x.natAbs, 0, 0⟩ ⟨ds, _, rfl, by omega, hb, by omega⟩ (by
      rintro j y g hj ⟨ds', r', rfl, h1, h2, h3⟩
      have hj2 := (List.getElem?_eq_some_iff.mp hj).1
      rw [rng_len] at hj2
      have hj3 : j < 60 := hj2
      obtain ⟨d2, r2, e2, h4, h5, h6⟩ := draws_lp0 (ns := ns) (ds := ds') (k := k) (r := r') (t := y) (by omega) h2 h3
      exact ⟨_, e2, d2, r2, rfl, by omega, h5, h6⟩)
    rw [e]
    simp only [seqO_nx]
    refine ⟨_, rfl, ?_, h2⟩
    rw [rng_len] at h1
    have : Int.toNat 60 = 60 := rfl
    omega
  · rw [decide_eq_false h]
    simp only [Bool.false_eq_true, if_false]
    rw [iMul_eq (by omega) (by decide), iMul_eq (by omega) (by decide)]
    simp only [bsome]
    rw [iMod_eq (by decide)]
    simp only [bsome, seqO_nx]
    rw [iMul_eq (by omega) (by decide), iMul_eq (by decide) (by omega)]
    simp only [bsome]
    rw [iMod_eq (by decide)]
    simp only [bsome, seqO_nx]
    rw [iMod_eq (by decide)]
    simp only [bsome]
    rw [push_eq (by omega)]
    simp only [bsome, seqO_nx]
    rw [iDiv_eq (by decide) (by decide)]
    simp only [bsome]
    rw [iMod_eq (by decide)]
    simp only [bsome]
    rw [push_eq (by simp; omega)]
    simp only [bsome, seqO_nx]
    exact ⟨_, rfl, by simp; omega, (hb.app (by omega) (by omega)).app (by omega) (by omega)⟩
theorem draws_ok (ns : List Int) (h : ns.length ≤ 63) : ∃ l, F__law_draws ns = some l ∧ l.length ≤ 3780 ∧ BdD l := by
  unfold F__law_draws fb__law_draws
  simp only [bsome, seqO_nx]
  rw [rng1_eq (by omega) (by omega)]
  simp only [bsome]
  obtain ⟨g, e, ds', rfl, h1, h2⟩ := forO_all (set := fun (s : S__law_draws) (t : Int) => (⟨s.1, s.2, t, s.4, s.5, s.6⟩ : S__law_draws)) (b := lp__law_draws_1) (fun i g => ∃ ds', g = ⟨ns, ds', 0, 0, 0, 0⟩ ∧ ds'.length ≤ 60 * i ∧ BdD ds') (rng 0 (min 63 (ns.length : Int)).toNat) 0 ⟨ns, [], 0, 0, 0, 0⟩ ⟨[], rfl, by simp, fun x hx => absurd hx (by simp)⟩ (by
    rintro j y g hj ⟨ds', rfl, h1, h2⟩
    obtain ⟨h3, rfl⟩ := rng_get hj
    obtain ⟨d2, e2, h4, h5⟩ := draws_lp1 (ns := ns) (ds := ds') (k := 0 + (j : Int)) (by omega) (by omega) (by omega) (by simp at h1 ⊢; omega) h2
    exact ⟨_, e2, d2, rfl, by simp at h4 ⊢; omega, h5⟩)
  rw [e]
  simp only [seqO_nx, seqO_rt, outF_rt]
  exact ⟨_, rfl, by rw [rng_len] at h1; omega, h2⟩
theorem mix_ok {l : List Int} (hb : BdD l) (hl : l.length ≤ 3780) {k m : Int} (hk : 0 ≤ k) (hk2 : k < 100000000) (hm : 0 < m) : ∃ r, F__law_mix l k m = some r ∧ 0 ≤ r ∧ r < m := by
  unfold F__law_mix fb__law_mix
  simp only [bsome, seqO_nx]
  by_cases h : (l.length : Int) > 0
  · rw [decide_eq_true h]
    simp only [if_pos]
    rw [iMod_eq h]
    simp only [bsome]
    obtain ⟨x, hx, hmem⟩ := atI_some (l := l) (i := k % l.length) (Int.emod_nonneg _ (by omega)) (Int.emod_lt_of_pos _ h)
    rw [hx]
    simp only [bsome, seqO_nx]
    have hx1 := (hb x hmem).1
    have hx2 := (hb x hmem).2
    by_cases h2 : k < (l.length : Int)
    · rw [decide_eq_true h2]
      simp only [if_pos]
      rw [iMod_eq hm]
      simp only [bsome, seqO_rt, outF_rt]
      exact ⟨_, rfl, Int.emod_nonneg _ (by omega), Int.emod_lt_of_pos _ hm⟩
    · rw [decide_eq_false h2]
      simp only [Bool.false_eq_true, if_false, seqO_nx]
      rw [iMul_eq (by omega) (by decide), iMul_eq (by omega) (by decide)]
      simp only [bsome]
      rw [iDiv_eq (by decide) (by decide)]
      simp only [bsome]
      rw [iMod_eq hm]
      simp only [bsome, seqO_rt, outF_rt]
      exact ⟨_, rfl, Int.emod_nonneg _ (by omega), Int.emod_lt_of_pos _ hm⟩
  · rw [decide_eq_false h]
    simp only [Bool.false_eq_true, if_false, seqO_nx, bsome]
    by_cases h2 : k < (l.length : Int)
    · rw [decide_eq_true h2]
      simp only [if_pos]
      rw [iMod_eq hm]
      simp only [bsome, seqO_rt, outF_rt]
      exact ⟨_, rfl, Int.emod_nonneg _ (by omega), Int.emod_lt_of_pos _ hm⟩
    · rw [decide_eq_false h2]
      simp only [Bool.false_eq_true, if_false, seqO_nx]
      rw [iMul_eq (by omega) (by decide), iMul_eq (by omega) (by decide)]
      simp only [bsome]
      rw [iDiv_eq (by decide) (by decide)]
      simp only [bsome]
      rw [iMod_eq hm]
      simp only [bsome, seqO_rt, outF_rt]
      exact ⟨_, rfl, Int.emod_nonneg _ (by omega), Int.emod_lt_of_pos _ hm⟩
end LW

set_option Elab.async false
set_option linter.all false
set_option maxRecDepth 100000
namespace LW
open PL
/-- the powers of a number, by d -/
def pv (n d i : Nat) : Nat := n ^ i % d
theorem pv_succ (n d i : Nat) : pv n d (i + 1) = pv n d i * n % d := by unfold pv; rw [Nat.pow_succ]; simp [Nat.mul_mod]
theorem pv_lt {n d i : Nat} (h : 0 < d) : pv n d i < d := Nat.mod_lt _ h
theorem pv_nodup {n d : Nat} : ∀ (k : Nat), (∀ q, q < k → ∀ i, i < q → pv n d i ≠ pv n d q) → ((List.range k).map (pv n d)).Nodup
  | 0, _ => List.nodup_nil
  | k + 1, h => by
    rw [List.range_succ, List.map_append, List.nodup_append]
    refine ⟨pv_nodup k fun q hq => h q (by omega), ?_, ?_⟩
    · simp
    · intro a ha b hb e
      obtain ⟨i, hi, rfl⟩ := List.mem_map.mp ha
      simp only [List.map_cons, List.map_nil, List.mem_singleton] at hb
      exact h k (by omega) i (List.mem_range.mp hi) (e.trans hb)
/-- the first place whose power was met -/
theorem first_met {n d : Nat} (hd : 0 < d) : ∃ P a, P ≤ d ∧ a < P ∧ pv n d a = pv n d P ∧ ∀ q, q < P → ∀ i, i < q → pv n d i ≠ pv n d q := by
  have step : ∀ k, (∀ q, q < k → ∀ i, i < q → pv n d i ≠ pv n d q) ∨ ∃ P a, P < k ∧ a < P ∧ pv n d a = pv n d P ∧ ∀ q, q < P → ∀ i, i < q → pv n d i ≠ pv n d q := by
    intro k
    induction k with
    | zero => exact .inl fun q hq => by omega
    | succ k ih =>
      rcases ih with h | ⟨P, a, h1, h2, h3, h4⟩
      · by_cases hc : ∃ i, i < k ∧ pv n d i = pv n d k
        · obtain ⟨i, hi, e⟩ := hc
          exact .inr ⟨k, i, by omega, hi, e, h⟩
        · refine .inl fun q hq i hi e => ?_
          by_cases hk : q = k
          · subst hk; exact hc ⟨i, hi, e⟩
          · exact h q (by omega) i hi e
      · exact .inr ⟨P, a, by omega, h2, h3, h4⟩
  rcases step (d + 1) with h | ⟨P, a, h1, h2, h3, h4⟩
  · have := pigeon d _ (fun x hx => by
      obtain ⟨i, _, rfl⟩ := List.mem_map.mp hx
      exact pv_lt hd) (pv_nodup (d + 1) h)
    rw [List.length_map, List.length_range] at this
    omega
  · exact ⟨P, a, by omega, h2, h3, h4⟩
theorem log2_pw {b i k : Nat} (h : b < 2 ^ k) : (b ^ i).log2 < k * i + 1 := by
  by_cases h0 : b ^ i = 0
  · rw [h0]; simp
  · rw [Nat.log2_lt h0]
    have h1 : b ^ i ≤ (2 ^ k) ^ i := Nat.pow_le_pow_left (by omega) i
    rw [← Nat.pow_mul] at h1
    exact Nat.lt_of_le_of_lt h1 (Nat.pow_lt_pow_right (by omega) (by omega))
theorem power_ok {b o : Nat} (hb : b < 2 ^ 20) (ho : o ≤ 1000) : F_power_of (b : Int) (o : Int) = some ((b ^ o : Nat) : Int) := by
  unfold F_power_of fb_power_of
  simp only [bsome, seqO_nx]
  rw [rng1_eq (by omega) (by omega)]
  simp only [bsome]
  have h := forO_eq (b := lp_power_of_0) (set := fun (s : S_power_of) (t : Int) => { s with v__ := t }) (fun j => ⟨b, o, ((b ^ j : Nat) : Int), 0⟩) (rng 0 (o : Int).toNat) fun j x hx => by
    have hj : j < o := by
      have := (List.getElem?_eq_some_iff.mp hx).1
      unfold rng at this
      simpa using this
    unfold lp_power_of_0
    simp only [bsome]
    rw [iMul_bits (by
      have h1 := log2_pw (i := j) hb
      have h2 := log2_pw (i := 1) hb
      rw [Nat.pow_one] at h2
      simp only [Int.natAbs_natCast]
      omega)]
    simp only [bsome, seqO_nx]
    rw [Nat.pow_succ]
    push_cast
    rfl
  rw [show ((b ^ 0 : Nat) : Int) = 1 by simp] at h
  rw [h]
  have hl : (rng 0 (o : Int).toNat).length = o := by unfold rng; simp
  rw [hl]
  simp only [seqO_nx, seqO_rt, bsome, outF_rt]
theorem mulmodN {p q d : Nat} (hp : p < 2 ^ 40) (hq : q < 2 ^ 40) (hd : 0 < d) : ((iMul (p : Int) (q : Int)).bind fun x => iMod x (d : Int)) = some ((p * q % d : Nat) : Int) := by
  rw [iMul_eq (by omega) (by omega)]
  simp only [bsome]
  rw [iMod_eq (by omega)]
  rw [← cast_mod]
  push_cast
  rfl
theorem rest_loop {num e d : Nat} (hd : 0 < d) (hd2 : d ≤ 2 ^ 40) : ∀ (k n f sq left : Nat), left < 2 ^ k → k < n → f < d → sq < d →
    ∃ sq', whileO lc_power_rest_1 lp_power_rest_0 n ⟨num, e, d, (f : Int), (sq : Int), (left : Int)⟩ = some (.nx ⟨num, e, d, ((f * sq ^ left % d : Nat) : Int), sq', 0⟩) := by
  intro k
  induction k with
  | zero =>
    intro n f sq left hl hk hf hs
    have h0 : left = 0 := by simpa using hl
    subst h0
    obtain ⟨n, rfl⟩ : ∃ m, n = m + 1 := ⟨n - 1, by omega⟩
    refine ⟨(sq : Int), ?_⟩
    rw [whileO_succ]
    unfold lc_power_rest_1
    simp only [bsome, decide_eq_false (show ¬ (((0 : Nat)) : Int) > 0 by decide), Bool.false_eq_true, if_false]
    rw [Nat.pow_zero, Nat.mul_one, Nat.mod_eq_of_lt hf]
    rfl
  | succ k ih =>
    intro n f sq left hl hk hf hs
    obtain ⟨n, rfl⟩ : ∃ m, n = m + 1 := ⟨n - 1, by omega⟩
    by_cases h0 : left = 0
    · subst h0
      refine ⟨(sq : Int), ?_⟩
      rw [whileO_succ]
      unfold lc_power_rest_1
      simp only [bsome, decide_eq_false (show ¬ (((0 : Nat)) : Int) > 0 by decide), Bool.false_eq_true, if_false]
      rw [Nat.pow_zero, Nat.mul_one, Nat.mod_eq_of_lt hf]
      rfl
    · have hs2 : sq * sq % d < d := Nat.mod_lt _ hd
      have hb : ∀ f' : Nat, f' < d → ∃ sq', whileO lc_power_rest_1 lp_power_rest_0 n ⟨num, e, d, (f' : Int), ((sq * sq % d : Nat) : Int), ((left / 2 : Nat) : Int)⟩ = some (.nx ⟨num, e, d, ((f' * (sq * sq % d) ^ (left / 2) % d : Nat) : Int), sq', 0⟩) :=
        fun f' hf' => ih n f' (sq * sq % d) (left / 2) (by rw [Nat.pow_succ] at hl; omega) (by omega) hf' hs2
      have hq : ∀ f' : Nat, f' * (sq * sq % d) ^ (left / 2) % d = f' * (sq ^ 2) ^ (left / 2) % d := fun f' => by
        rw [Nat.mul_mod, Nat.pow_mod, Nat.mod_mod, ← Nat.pow_mod, ← Nat.mul_mod, Nat.pow_two]
      have hlt : ((left : Nat) : Int) > 0 := by omega
      by_cases h1 : left % 2 = 1
      · have hf2 : f * sq % d < d := Nat.mod_lt _ hd
        obtain ⟨sq', h2⟩ := hb (f * sq % d) hf2
        refine ⟨sq', ?_⟩
        have c1 : lc_power_rest_1 ⟨num, e, d, (f : Int), (sq : Int), (left : Int)⟩ = some true := by
          unfold lc_power_rest_1
          simp only [bsome, decide_eq_true hlt]
        have c2 : lp_power_rest_0 ⟨num, e, d, (f : Int), (sq : Int), (left : Int)⟩ = some (.nx ⟨num, e, d, ((f * sq % d : Nat) : Int), ((sq * sq % d : Nat) : Int), ((left / 2 : Nat) : Int)⟩) := by
          unfold lp_power_rest_0
          simp only [bsome]
          rw [iMod_eq (by decide), show (2 : Int) = ((2 : Nat) : Int) from rfl, cast_mod, h1]
          simp only [bsome, show decide ((((1 : Nat)) : Int) = 1) = true by decide, if_true]
          rw [mulmodN (by omega) (by omega) hd]
          simp only [bsome, seqO_nx]
          rw [mulmodN (by omega) (by omega) hd]
          simp only [bsome, seqO_nx]
          rw [iDiv_eq (by decide) (by decide), cast_div]
          simp only [bsome, seqO_nx]
        rw [whileO_succ, c1, bsome, if_pos rfl, c2, seqO_nx]
        rw [h2, hq]
        have e2 : f * sq % d * (sq ^ 2) ^ (left / 2) % d = f * sq ^ left % d := by
          rw [Nat.mul_mod, Nat.mod_mod, ← Nat.mul_mod, ← Nat.pow_mul, Nat.mul_assoc, ← Nat.pow_succ']
          congr 3
          omega
        rw [e2]
      · obtain ⟨sq', h2⟩ := hb f hf
        refine ⟨sq', ?_⟩
        have c1 : lc_power_rest_1 ⟨num, e, d, (f : Int), (sq : Int), (left : Int)⟩ = some true := by
          unfold lc_power_rest_1
          simp only [bsome, decide_eq_true hlt]
        have c2 : lp_power_rest_0 ⟨num, e, d, (f : Int), (sq : Int), (left : Int)⟩ = some (.nx ⟨num, e, d, (f : Int), ((sq * sq % d : Nat) : Int), ((left / 2 : Nat) : Int)⟩) := by
          unfold lp_power_rest_0
          simp only [bsome]
          rw [iMod_eq (by decide), show (2 : Int) = ((2 : Nat) : Int) from rfl, cast_mod, show left % 2 = 0 by omega]
          simp only [bsome, show decide ((((0 : Nat)) : Int) = 1) = false by decide, Bool.false_eq_true, if_false, seqO_nx]
          rw [mulmodN (by omega) (by omega) hd]
          simp only [bsome, seqO_nx]
          rw [iDiv_eq (by decide) (by decide), cast_div]
          simp only [bsome, seqO_nx]
        rw [whileO_succ, c1, bsome, if_pos rfl, c2, seqO_nx]
        rw [h2, hq]
        have e2 : f * (sq ^ 2) ^ (left / 2) % d = f * sq ^ left % d := by
          rw [← Nat.pow_mul]
          congr 3
          omega
        rw [e2]
theorem power_rest_ok {num e d : Nat} (hd : 0 < d) (hd2 : d ≤ 2 ^ 40) (he : e < 2 ^ 40) : F_power_rest (num : Int) (e : Int) (d : Int) = some ((num ^ e % d : Nat) : Int) := by
  unfold F_power_rest fb_power_rest
  simp only [bsome]
  rw [iMod_eq (by omega), show (1 : Int) = ((1 : Nat) : Int) from rfl, cast_mod]
  simp only [bsome, seqO_nx]
  rw [iMod_eq (by omega), cast_mod]
  simp only [bsome, seqO_nx]
  obtain ⟨sq', h⟩ := rest_loop (num := num) (e := e) hd hd2 40 FUEL (1 % d) (num % d) e he (by unfold FUEL; omega) (Nat.mod_lt _ hd) (Nat.mod_lt _ hd)
  rw [h]
  simp only [seqO_nx, bsome, seqO_rt, outF_rt]
  have e2 : 1 % d * (num % d) ^ e % d = num ^ e % d := by
    rw [Nat.mul_mod, Nat.mod_mod, ← Nat.pow_mod, ← Nat.mul_mod, Nat.one_mul]
  rw [e2]
/-- the digits of a rest above 0, the last one ahead -/
def dz (b : Nat) : Nat → Nat → List Int
  | 0, _ => []
  | k + 1, r => if r = 0 then [] else ((r % b : Nat) : Int) :: dz b k (r / b)
theorem half_lt {b r k : Nat} (hb : 2 ≤ b) (h : r < 2 ^ (k + 1)) : r / b < 2 ^ k := by
  rw [Nat.pow_succ] at h
  have : r / b ≤ r / 2 := Nat.div_le_div_left hb (by decide)
  omega
theorem dig_loop {N b : Nat} (hb : 2 ≤ b) (hb2 : b ≤ 36) : ∀ (k n r : Nat) (acc : List Int), r < 2 ^ k → k < n → acc.length + k < 1000 →
    whileO lc_digits_of_1 lp_digits_of_0 n ⟨N, b, acc, (r : Int)⟩ = some (.nx ⟨N, b, acc ++ dz b k r, 0⟩) := by
  intro k
  induction k with
  | zero =>
    intro n r acc hr hk ha
    have h0 : r = 0 := by simpa using hr
    subst h0
    obtain ⟨n, rfl⟩ : ∃ m, n = m + 1 := ⟨n - 1, by omega⟩
    have c1 : lc_digits_of_1 ⟨N, b, acc, ((0 : Nat) : Int)⟩ = some false := rfl
    rw [whileO_succ, c1, bsome, if_neg (by decide)]
    unfold dz
    rw [List.append_nil]
    rfl
  | succ k ih =>
    intro n r acc hr hk ha
    obtain ⟨n, rfl⟩ : ∃ m, n = m + 1 := ⟨n - 1, by omega⟩
    by_cases h0 : r = 0
    · subst h0
      have c1 : lc_digits_of_1 ⟨N, b, acc, ((0 : Nat) : Int)⟩ = some false := rfl
      rw [whileO_succ, c1, bsome, if_neg (by decide)]
      unfold dz
      rw [if_pos rfl, List.append_nil]
      rfl
    · have c1 : lc_digits_of_1 ⟨N, b, acc, (r : Int)⟩ = some true := by
        unfold lc_digits_of_1
        simp only [bsome, decide_eq_true (show ((r : Nat) : Int) > 0 by omega)]
      have c2 : lp_digits_of_0 ⟨N, b, acc, (r : Int)⟩ = some (.nx ⟨N, b, acc ++ [((r % b : Nat) : Int)], ((r / b : Nat) : Int)⟩) := by
        unfold lp_digits_of_0
        simp only [bsome]
        rw [iMod_eq (by omega), cast_mod]
        simp only [bsome]
        rw [push_eq (by omega)]
        simp only [bsome, seqO_nx]
        rw [iDiv_eq (by omega) (by omega), cast_div]
        simp only [bsome, seqO_nx]
      rw [whileO_succ, c1, bsome, if_pos rfl, c2, seqO_nx, ih n (r / b) _ (half_lt hb hr) (by omega) (by rw [List.length_append, List.length_singleton]; omega)]
      rw [show dz b (k + 1) r = if r = 0 then [] else ((r % b : Nat) : Int) :: dz b k (r / b) from rfl, if_neg h0, List.append_assoc]
      rfl
def dgs (b n : Nat) : List Int := ((n % b : Nat) : Int) :: dz b 64 (n / b)
theorem digits_of_ok {n b : Nat} (hb : 2 ≤ b) (hb2 : b ≤ 36) (hn : n < 2 ^ 64) : F_digits_of (n : Int) (b : Int) = some (dgs b n) := by
  unfold F_digits_of fb_digits_of
  simp only [bsome]
  rw [iMod_eq (by omega), cast_mod]
  simp only [bsome, seqO_nx]
  rw [iDiv_eq (by omega) (by omega), cast_div]
  simp only [bsome, seqO_nx]
  rw [dig_loop hb hb2 64 FUEL (n / b) _ (by have := Nat.div_le_self n b; omega) (by unfold FUEL; omega) (by simp)]
  simp only [seqO_nx, seqO_rt, outF_rt]
  rfl
theorem dz_mem {b : Nat} (hb : 0 < b) : ∀ {k r : Nat} {x : Int}, x ∈ dz b k r → 0 ≤ x ∧ x < b
  | 0, r, x, h => by cases h
  | k + 1, r, x, h => by
    unfold dz at h
    by_cases h0 : r = 0
    · rw [if_pos h0] at h; cases h
    · rw [if_neg h0] at h
      rcases List.mem_cons.mp h with rfl | h
      · have := Nat.mod_lt r hb
        omega
      · exact dz_mem hb h
theorem dgs_mem {b n : Nat} (hb : 0 < b) {x : Int} (h : x ∈ dgs b n) : 0 ≤ x ∧ x < b := by
  rcases List.mem_cons.mp h with rfl | h
  · have := Nat.mod_lt n hb
    omega
  · exact dz_mem hb h
theorem dz_len {b : Nat} : ∀ {k r : Nat}, (dz b k r).length ≤ k
  | 0, r => Nat.le_refl _
  | k + 1, r => by
    unfold dz
    by_cases h0 : r = 0
    · rw [if_pos h0]; simp
    · rw [if_neg h0, List.length_cons]
      have := dz_len (b := b) (k := k) (r := r / b)
      omega
def sgn (i : Int) : Nat := c_DIGITS_l.getD i.toNat 0
theorem sIx_sgn {i : Int} (h : 0 ≤ i) (h2 : i < 36) : sIx ⟨c_DIGITS_l⟩ i = some ⟨[sgn i]⟩ := by
  have : ∀ n : Fin 36, sIx ⟨c_DIGITS_l⟩ ((n.val : Nat) : Int) = some ⟨[sgn ((n.val : Nat) : Int)]⟩ := by decide
  have q := this ⟨i.toNat, by omega⟩
  rwa [show (((⟨i.toNat, by omega⟩ : Fin 36).val : Nat) : Int) = i from by show ((i.toNat : Nat) : Int) = i; omega] at q
/-- a numeral -/
def wr (b n : Nat) : Tx := ⟨((dgs b n).reverse).map sgn⟩
theorem ord_met {n d a r : Nat} (hd : 0 < d) (S : Spl n d a r) : ∃ o, IsO n r o ∧ a + o ≤ d ∧ pv n d a = pv n d (a + o) ∧ ∀ q, q < a + o → ∀ i, i < q → pv n d i ≠ pv n d q := by
  obtain ⟨P, b, h1, h2, h3, h4⟩ := first_met (n := n) hd
  obtain ⟨k1, k2⟩ := (S.key b P h2).mp h3
  have hb : b = a := by
    rcases Nat.lt_or_ge a b with c | c
    · exfalso
      have := (S.key a (a + (P - b)) (by omega)).mpr ⟨Nat.le_refl _, by rw [show a + (P - b) - a = P - b by omega]; exact k2⟩
      exact h4 (a + (P - b)) (by omega) a (by omega) this
    · omega
  subst hb
  refine ⟨P - b, ⟨by omega, k2, fun k hk hk2 e => ?_⟩, by omega, by rw [show b + (P - b) = P by omega]; exact h3, by rw [show b + (P - b) = P by omega]; exact h4⟩
  have := (S.key b (b + k) (by omega)).mpr ⟨Nat.le_refl _, by rw [show b + k - b = k by omega]; exact e⟩
  exact h4 (b + k) (by omega) b (by omega) this
end LW

set_option Elab.async false
set_option linter.all false
set_option maxRecDepth 100000
namespace LW
open PL
theorem dgs_len {b n : Nat} : (dgs b n).length ≤ 65 := by
  have := dz_len (b := b) (k := 64) (r := n / b)
  show (dz b 64 (n / b)).length + 1 ≤ 65
  omega
theorem wr_len {b n : Nat} : (wr b n).cs.length ≤ 65 := by
  unfold wr
  rw [List.length_map, List.length_reverse]
  exact dgs_len
theorem write_of_ok {n b : Nat} (hb : 2 ≤ b) (hb2 : b ≤ 36) (hn : n < 2 ^ 64) : F_write_of (n : Int) (b : Int) = some (wr b n) := by
  unfold F_write_of fb_write_of
  simp only [bsome]
  rw [digits_of_ok hb hb2 hn]
  simp only [bsome]
  have hl := dgs_len (b := b) (n := n)
  rw [lNew_eq (by rw [List.length_reverse]; omega)]
  simp only [bsome]
  rw [compO_all (t := fun s : S_write_of × Int => some true) (f := fun s : S_write_of × Int => sIx ⟨c_DIGITS_l⟩ s.2) (set := fun t : Int => ((⟨(n : Int), (b : Int)⟩ : S_write_of), t)) (h := fun x : Int => (⟨[sgn x]⟩ : Tx)) (fun x _ => rfl) (fun x hx => by
    have h2 := dgs_mem (b := b) (n := n) (by omega) (List.mem_reverse.mp hx)
    exact sIx_sgn h2.1 (by omega))]
  simp only [bsome]
  have e : tJn ⟨[]⟩ (((dgs b n).reverse).map fun x : Int => (⟨[sgn x]⟩ : Tx)) = some (wr b n) := by
    unfold tJn
    rw [if_pos (by
      simp only [List.map_map, List.length_map, List.length_reverse, List.length_nil, Nat.mul_zero, Nat.add_zero]
      have : ∀ l : List Int, (l.map ((fun t : Tx => t.cs.length) ∘ fun x : Int => (⟨[sgn x]⟩ : Tx))).sum = l.length := by
        intro l
        induction l with
        | nil => rfl
        | cons a l ih => rw [List.map_cons, List.sum_cons, ih, List.length_cons]; show 1 + l.length = _; omega
      rw [this, List.length_reverse]
      omega)]
    unfold wr
    rw [← jL_one (((dgs b n).reverse).map sgn)]
    simp only [List.map_map]
    rfl
  rw [e]
  simp only [bsome, seqO_rt, outF_rt]
def wd (m b n : Nat) : Tx := ⟨List.replicate (m - (wr b n).cs.length) 48 ++ (wr b n).cs⟩
theorem zeros_ok {m : Nat} {t : Tx} (hm : m ≤ 1000) (ht : t.cs.length ≤ 65) :
    ((tRep ⟨[48]⟩ ((m : Int) - (t.cs.length : Int))).bind fun x => tCat x t) = some ⟨List.replicate (m - t.cs.length) 48 ++ t.cs⟩ := by
  have e : tRep ⟨[48]⟩ ((m : Int) - (t.cs.length : Int)) = some ⟨List.replicate (m - t.cs.length) 48⟩ := by
    have h : ((m : Int) - (t.cs.length : Int)).toNat = m - t.cs.length := by omega
    show (if -(2 ^ 62) ≤ (m : Int) - (t.cs.length : Int) ∧ (m : Int) - (t.cs.length : Int) ≤ 16777216 then some (⟨List.replicate ((m : Int) - (t.cs.length : Int)).toNat 48⟩ : Tx) else none) = _
    rw [if_pos (by omega), h]
  rw [e, bsome, tCat_eq (by simp only [List.length_replicate]; omega)]
theorem check_base_ok {b : Int} (h : 2 ≤ b) (h2 : b ≤ 36) : F_check_base b = some () := by
  unfold F_check_base fb_check_base
  simp [bsome, seqO_nx, outF_nx, h, h2]
theorem check_numbers_ok {b : Int} (h : 2 ≤ b) (h2 : b ≤ 36) {told : List (T3 Int Int Int)} (ht : ∀ t ∈ told, t.b ≤ t.a ∧ t.a ≤ t.c) : F_check_numbers b told = some () := by
  unfold F_check_numbers fb_check_numbers
  simp only [bsome]
  rw [check_base_ok h h2]
  simp only [bsome, seqO_nx]
  rw [forO_same (g := (⟨b, told, 0, 0, 0⟩ : S_check_numbers)) fun t hx => by
    obtain ⟨h3, h4⟩ := ht t hx
    unfold lp_check_numbers_0
    simp only [bsome, decide_eq_true h3, decide_eq_true h4, if_true, Bool.not_true, Bool.false_eq_true, if_false, seqO_nx]]
  simp only [seqO_nx, outF_nx]
theorem last_digits_ok {n e m b : Nat} (hb : 2 ≤ b) (hb2 : b ≤ 36) (hn : n ≤ 1000000) (he : e ≤ 1000000) (hm : 1 ≤ m) (hm2 : m ≤ 20) (hp : b ^ m ≤ 2 ^ 40) : F_last_digits (n : Int) (e : Int) (m : Int) (b : Int) = some (wd m b (n ^ e % b ^ m)) := by
  have hd : 0 < b ^ m := Nat.pow_pos (by omega)
  have hlt : n ^ e % b ^ m < b ^ m := Nat.mod_lt _ hd
  unfold F_last_digits fb_last_digits
  simp only [bsome]
  rw [check_numbers_ok (by omega) (by omega) (by
    intro t ht
    simp only [List.mem_cons, List.not_mem_nil, or_false] at ht
    rcases ht with rfl | rfl | rfl
    · exact ⟨by show (0 : Int) ≤ n; omega, by show (n : Int) ≤ 1000000; omega⟩
    · exact ⟨by show (0 : Int) ≤ e; omega, by show (e : Int) ≤ 1000000; omega⟩
    · exact ⟨by show (1 : Int) ≤ m; omega, by show (m : Int) ≤ 20; omega⟩)]
  simp only [bsome, seqO_nx]
  rw [power_ok (by omega) (by omega)]
  simp only [bsome]
  rw [power_rest_ok hd hp (by omega)]
  simp only [bsome]
  rw [write_of_ok hb hb2 (by omega)]
  have hl := wr_len (b := b) (n := n ^ e % b ^ m)
  simp only [bsome, seqO_nx]
  rw [if_pos (by rw [sizeLine_val]; omega)]
  simp only [bsome]
  rw [zeros_ok (by omega) hl]
  simp only [bsome, seqO_rt, outF_rt]
  rfl
def mt (n d j : Nat) : Dct Int Int := ⟨(List.range j).map fun i => (((pv n d i : Nat) : Int), (i : Int))⟩
theorem mt_none {n d j : Nat} {x : Int} (h : ∀ i, i < j → ((pv n d i : Nat) : Int) ≠ x) : kGet (mt n d j) x = none := by
  unfold kGet mt
  rw [List.find?_map, Option.map_map]
  have : (List.range j).find? ((fun q : Int × Int => decide (q.1 = x)) ∘ fun i => (((pv n d i : Nat) : Int), (i : Int))) = none := by
    rw [List.find?_eq_none]
    intro i hi z
    exact h i (List.mem_range.mp hi) (of_decide_eq_true z)
  rw [this]
  rfl
theorem mt_some {n d j a : Nat} {x : Int} (ha : a < j) (hx : ((pv n d a : Nat) : Int) = x) (h : ∀ i, i < a → ((pv n d i : Nat) : Int) ≠ x) : kGet (mt n d j) x = some (a : Int) := by
  unfold kGet mt
  rw [List.find?_map, Option.map_map]
  have : (List.range j).find? ((fun q : Int × Int => decide (q.1 = x)) ∘ fun i => (((pv n d i : Nat) : Int), (i : Int))) = some a := by
    rw [List.find?_range_eq_some]
    refine ⟨decide_eq_true hx, List.mem_range.mpr ha, fun i hi => ?_⟩
    have := h i hi
    show (!decide (((pv n d i : Nat) : Int) = x)) = true
    rw [decide_eq_false this]
    rfl
  rw [this]
  rfl
theorem mt_put {n d j : Nat} (hj : j < 10000) (h : ∀ i, i < j → pv n d i ≠ pv n d j) : kPut (mt n d j) ((pv n d j : Nat) : Int) (j : Int) = some (mt n d (j + 1)) := by
  unfold kPut
  have hl : (mt n d j).es.length = j := by unfold mt; simp
  rw [if_pos (by rw [hl, sizeLine_val]; omega)]
  have ha : ((mt n d j).es.any fun q => decide (q.1 = ((pv n d j : Nat) : Int))) = false := by
    rw [List.any_eq_false]
    intro q hq z
    unfold mt at hq
    obtain ⟨i, hi, rfl⟩ := List.mem_map.mp hq
    have z2 := of_decide_eq_true z
    have z3 : ((pv n d i : Nat) : Int) = ((pv n d j : Nat) : Int) := z2
    exact h i (List.mem_range.mp hi) (by omega)
  rw [ha, if_neg (by decide)]
  unfold mt
  rw [List.range_succ, List.map_append]
  rfl
theorem met_loop {n m b d P a : Nat} (hn : n ≤ 1000000) (hd : 0 < d) (hd2 : d ≤ 10000) (hP : P ≤ d) (ha : a < P) (he : pv n d a = pv n d P) (hu : ∀ q, q < P → ∀ i, i < q → pv n d i ≠ pv n d q) :
    ∀ (k j f : Nat), j + k = P → k < f → whileO lc_comes_again_1 lp_comes_again_0 f ⟨n, m, b, d, mt n d j, ((pv n d j : Nat) : Int), (j : Int)⟩ = some (.nx ⟨n, m, b, d, mt n d P, ((pv n d P : Nat) : Int), (P : Int)⟩)
  | 0, j, f, hj, hf => by
    obtain rfl : j = P := by omega
    obtain ⟨f, rfl⟩ : ∃ m, f = m + 1 := ⟨f - 1, by omega⟩
    have c1 : lc_comes_again_1 ⟨n, m, b, d, mt n d j, ((pv n d j : Nat) : Int), (j : Int)⟩ = some false := by
      unfold lc_comes_again_1
      simp only [bsome]
      unfold kNin
      rw [mt_some ha (by rw [he]) (fun i hi z => hu a ha i hi (by rw [he]; omega))]
      rfl
    rw [whileO_succ, c1, bsome, if_neg (by decide)]
  | k + 1, j, f, hj, hf => by
    obtain ⟨f, rfl⟩ : ∃ m, f = m + 1 := ⟨f - 1, by omega⟩
    have hjP : j < P := by omega
    have c1 : lc_comes_again_1 ⟨n, m, b, d, mt n d j, ((pv n d j : Nat) : Int), (j : Int)⟩ = some true := by
      unfold lc_comes_again_1
      simp only [bsome]
      unfold kNin
      rw [mt_none (fun i hi z => hu j hjP i hi (by omega))]
      rfl
    have hlt := pv_lt (n := n) (i := j) hd
    have c2 : lp_comes_again_0 ⟨n, m, b, d, mt n d j, ((pv n d j : Nat) : Int), (j : Int)⟩ = some (.nx ⟨n, m, b, d, mt n d (j + 1), ((pv n d (j + 1) : Nat) : Int), ((j + 1 : Nat) : Int)⟩) := by
      unfold lp_comes_again_0
      simp only [bsome]
      rw [mt_put (by omega) (hu j hjP)]
      simp only [bsome, seqO_nx]
      rw [mulmodN (by omega) (by omega) hd, ← pv_succ]
      simp only [bsome, seqO_nx]
      push_cast
      rfl
    rw [whileO_succ, c1, bsome, if_pos rfl, c2, seqO_nx]
    exact met_loop hn hd hd2 hP ha he hu k (j + 1) f (by omega) (by omega)
theorem comes_again_ok {n m b P a : Nat} (hb : 2 ≤ b) (hb2 : b ≤ 12) (hm : 1 ≤ m) (hm2 : m ≤ 3) (hn : n ≤ 1000000) (hP : P ≤ b ^ m) (ha : a < P) (he : pv n (b ^ m) a = pv n (b ^ m) P) (hu : ∀ q, q < P → ∀ i, i < q → pv n (b ^ m) i ≠ pv n (b ^ m) q) :
    F_comes_again (n : Int) (m : Int) (b : Int) = some ⟨(a : Int), (P : Int) - (a : Int)⟩ := by
  have hd : 0 < b ^ m := Nat.pow_pos (by omega)
  have hd2 : b ^ m ≤ 10000 := by
    have h1 : b ^ m ≤ 12 ^ m := Nat.pow_le_pow_left hb2 m
    have h2 : 12 ^ m ≤ 12 ^ 3 := Nat.pow_le_pow_right (by decide) hm2
    omega
  unfold F_comes_again fb_comes_again
  simp only [bsome]
  rw [check_numbers_ok (by omega) (by omega) (by
    intro t ht
    simp only [List.mem_cons, List.not_mem_nil, or_false] at ht
    rcases ht with rfl | rfl
    · exact ⟨by show (0 : Int) ≤ n; omega, by show (n : Int) ≤ 1000000; omega⟩
    · exact ⟨by show (1 : Int) ≤ m; omega, by show (m : Int) ≤ 3; omega⟩)]
  simp only [bsome, seqO_nx]
  rw [decide_eq_false (show ¬ (b : Int) > 12 by omega), if_neg (by decide)]
  simp only [seqO_nx]
  rw [power_ok (by omega) (by omega)]
  simp only [bsome, seqO_nx]
  rw [iMod_eq (by omega), show (1 : Int) = ((1 : Nat) : Int) from rfl, cast_mod]
  simp only [bsome, seqO_nx]
  have h := met_loop (m := m) (b := b) hn hd hd2 hP ha he hu P 0 FUEL (by omega) (by unfold FUEL; omega)
  have e0 : mt n (b ^ m) 0 = ⟨[]⟩ := rfl
  have e1 : pv n (b ^ m) 0 = 1 % b ^ m := by unfold pv; rw [Nat.pow_zero]
  rw [e0, e1] at h
  rw [show (((0 : Nat)) : Int) = 0 from rfl] at h
  rw [h]
  simp only [seqO_nx, bsome]
  rw [mt_some ha (by rw [he]) (fun i hi z => hu a ha i hi (by rw [he]; omega))]
  simp only [bsome, seqO_rt, outF_rt]
end LW

set_option Elab.async false
set_option linter.all false
set_option maxRecDepth 100000
namespace LW
open PL
theorem check_part_ok {d : Int} (h : 2 ≤ d) (h2 : d ≤ 1000) : F_check_part ⟨1, d⟩ = some () := by
  have hf : F_is_fraction ⟨1, d⟩ = some true := by
    unfold F_is_fraction fb_is_fraction
    have h3 : decide (d > 0) = true := decide_eq_true (by omega)
    simp [bsome, seqO_rt, outF_rt, h3]
  unfold F_check_part fb_check_part
  have h3 : decide ((1 : Int) < d) = true := decide_eq_true (by omega)
  have h4 : decide (d > 1000) = false := decide_eq_false (by omega)
  simp [bsome, hf, seqO_nx, outF_nx, h3, h4]
theorem check_both_ok {b d : Int} (h : 2 ≤ d) (h2 : d ≤ 1000) (h3 : 2 ≤ b) (h4 : b ≤ 36) : F_check_both ⟨1, d⟩ b = some () := by
  unfold F_check_both fb_check_both
  simp [bsome, check_part_ok h h2, check_base_ok h3 h4, seqO_nx, outF_nx]
theorem check_some_ok {d : Int} (h : 2 ≤ d) (h2 : d ≤ 1000) : F_check_some ⟨1, d⟩ = some () := by
  unfold F_check_some fb_check_some
  simp [bsome, check_part_ok h h2, seqO_nx, outF_nx]
theorem split_loop (b : Nat) : ∀ (f h r n : Nat), 0 < r → r < 2 ^ f → f < n → r < 100000 → whileO lc_split_1 lp_split_0 n ⟨(r : Int), b, (h : Int), (Nat.gcd r b : Nat)⟩ = some (.nx ⟨(spR b f r : Nat), b, ((h + spA b f r : Nat) : Int), (Nat.gcd (spR b f r) b : Nat)⟩)
  | 0, h, r, n, hr, h1, h2, h3 => by simp at h1; omega
  | f + 1, h, r, n, hr, h1, h2, h3 => by
    obtain ⟨n, rfl⟩ : ∃ m, n = m + 1 := ⟨n - 1, by omega⟩
    rw [whileO_succ]
    unfold lc_split_1
    simp only [bsome]
    by_cases hg : 1 < Nat.gcd r b
    · rw [decide_eq_true (show ((Nat.gcd r b : Nat) : Int) > 1 by omega)]
      simp only [if_pos]
      have hgr : Nat.gcd r b ≤ r := Nat.le_of_dvd hr (Nat.gcd_dvd_left r b)
      have e : lp_split_0 ⟨(r : Int), b, (h : Int), (Nat.gcd r b : Nat)⟩ = some (.nx ⟨((r / Nat.gcd r b : Nat) : Int), b, ((h + 1 : Nat) : Int), (Nat.gcd (r / Nat.gcd r b) b : Nat)⟩) := by
        unfold lp_split_0
        simp only [bsome]
        rw [iDiv_nat (by omega) (by omega)]
        simp only [bsome, seqO_nx]
        rw [gcd_cast]
        push_cast
        rfl
      rw [e, seqO_nx]
      have hd : r / Nat.gcd r b < 2 ^ f := by
        rw [Nat.div_lt_iff_lt_mul (by omega)]
        rw [Nat.pow_succ] at h1
        exact Nat.lt_of_lt_of_le h1 (Nat.mul_le_mul_left _ hg)
      have hp : 0 < r / Nat.gcd r b := Nat.div_pos hgr (by omega)
      rw [spR, spA, if_pos hg, if_pos hg]
      have := split_loop b f (h + 1) _ n hp hd (by omega) (Nat.lt_of_le_of_lt (Nat.div_le_self _ _) h3)
      unfold lc_split_1 at this
      simp only [bsome] at this
      rw [this, show h + 1 + spA b f (r / r.gcd b) = h + (spA b f (r / r.gcd b) + 1) by omega]
    · rw [decide_eq_false (show ¬ ((Nat.gcd r b : Nat) : Int) > 1 by omega)]
      rw [spR, spA, if_neg hg, if_neg hg]
      rfl
theorem split_ok {b d : Nat} (h : 0 < d) (h2 : d ≤ 1000) : F_split (d : Int) (b : Int) = some ⟨(spA b 10 d : Nat), (spR b 10 d : Nat)⟩ := by
  unfold F_split fb_split
  simp only [bsome, seqO_nx]
  rw [gcd_cast]
  have e := split_loop b 10 0 d FUEL h (by omega) (by decide) (by omega)
  rw [show ((0 : Nat) : Int) = 0 from rfl, Nat.zero_add] at e
  rw [e]
  simp only [seqO_nx, seqO_rt, outF_rt]
theorem lengths_of_ok {b d a r o : Nat} (h : 2 ≤ d) (h2 : d ≤ 1000) (hb : b ≤ 36) (ha : spA b 10 d = a) (hr : spR b 10 d = r) (hr0 : 0 < r) (hr2 : r ≤ 1000) (ho : IsO b r o) (ho2 : o ≤ 1000) : F_lengths_of ⟨1, (d : Int)⟩ (b : Int) = some ⟨(a : Int), ((if r = 1 then 0 else o : Nat) : Int)⟩ := by
  unfold F_lengths_of fb_lengths_of
  simp only [bsome]
  rw [split_ok (by omega) h2]
  simp only [bsome, seqO_nx, ha, hr]
  by_cases h1 : r = 1
  · subst h1
    rfl
  rw [decide_eq_false (show ¬ ((r : Nat) : Int) = 1 by omega), if_neg h1]
  simp only [Bool.false_eq_true, if_false, seqO_nx]
  rw [iMod_nat (by omega)]
  simp only [bsome, seqO_nx]
  have hr1 : 1 % r = 1 := Nat.mod_eq_of_lt (by omega)
  have e := whileO_eq (c := lc_lengths_of_1) (b := lp_lengths_of_0) (fun j => (⟨⟨1, (d : Int)⟩, (b : Int), (a : Int), (r : Int), ((j + 1 : Nat) : Int), ((pv b r (j + 1) : Nat) : Int)⟩ : S_lengths_of)) (o - 1) (fun j hj => ⟨?_, ?_⟩) ?_ FUEL ?_
  · have e0 : pv b r (0 + 1) = b % r := by unfold pv; rw [Nat.zero_add, Nat.pow_one]
    simp only [e0] at e
    have e1 : (((0 + 1 : Nat)) : Int) = 1 := rfl
    rw [e1] at e
    rw [e]
    simp only [seqO_nx, seqO_rt, outF_rt]
    have := ho.pos
    rw [show o - 1 + 1 = o by omega]
  · unfold lc_lengths_of_1
    simp only [bsome]
    have := ho.min (j + 1) (by omega) (by omega)
    rw [hr1] at this
    rw [decide_eq_false (fun z => this (by unfold pv at z; omega))]
    rfl
  · unfold lp_lengths_of_0
    simp only [bsome]
    have := pv_lt (n := b) (i := j + 1) hr0
    rw [mulmodN (by omega) (by omega) hr0]
    simp only [bsome, seqO_nx, pv_succ b r (j + 1)]
    push_cast
    rfl
  · unfold lc_lengths_of_1
    simp only [bsome]
    have := ho.pos
    have h3 : pv b r (o - 1 + 1) = 1 := by rw [show o - 1 + 1 = o by omega]; unfold pv; rw [ho.one, hr1]
    rw [h3]
    rfl
  · show o - 1 < FUEL
    unfold FUEL
    omega
/-! ### digits -/
def dg (n d i : Nat) : Nat := pv n d i * n / d
def dgT (n d a k : Nat) : List Int := (List.range' a k).map fun i => ((dg n d i : Nat) : Int)
theorem dgT_app {n d a k : Nat} : dgT n d 0 (a + k) = dgT n d 0 a ++ dgT n d a k := by
  unfold dgT
  rw [← List.map_append]
  have := List.range'_append_1 (s := 0) (m := a) (n := k)
  rw [Nat.zero_add] at this
  rw [this]
theorem dgT_len {n d a k : Nat} : (dgT n d a k).length = k := by simp [dgT]
theorem dg_lt {n d i : Nat} (hn : 0 < n) (hd : 0 < d) : dg n d i < n := by
  unfold dg
  rw [Nat.div_lt_iff_lt_mul hd, Nat.mul_comm]
  exact Nat.mul_lt_mul_of_pos_left (pv_lt hd) hn
theorem dg_step {n d j : Nat} (hn : 2 ≤ n) (hn2 : n ≤ 36) (hd : 2 ≤ d) (hd2 : d ≤ 1000) (hj : j < 5000) (s : S_digits) (h1 : s.v_part = ⟨1, (d : Int)⟩) (h2 : s.v_base = (n : Int)) (h3 : s.v_found = ⟨(dgT n d 0 j).map sgn⟩) (h4 : s.v_rest = ((pv n d j : Nat) : Int)) :
    lp_digits_0 s = some (.nx { s with v_found := ⟨(dgT n d 0 (j + 1)).map sgn⟩, v_rest := ((pv n d (j + 1) : Nat) : Int), v__ := 0 }) := by
  have hl := pv_lt (n := n) (d := d) (i := j) (by omega)
  have hg := dg_lt (n := n) (d := d) (i := j) (by omega) (by omega)
  unfold lp_digits_0
  simp only [bsome, h1, h2, h3, h4]
  rw [iMul_nat (by omega) (by omega)]
  simp only [bsome, seqO_nx, h1, h2, h3, h4]
  rw [iDiv_nat (by omega) (by omega)]
  simp only [bsome]
  rw [show pv n d j * n / d = dg n d j from rfl, sIx_sgn (by omega) (by omega)]
  simp only [bsome]
  rw [tCat_eq (by simp [dgT]; omega)]
  simp only [bsome, seqO_nx, h1, h2, h3, h4]
  rw [iMod_nat (by omega), ← pv_succ]
  simp only [bsome, seqO_nx]
  have e : (dgT n d 0 (j + 1)).map sgn = (dgT n d 0 j).map sgn ++ [sgn ((dg n d j : Nat) : Int)] := by
    unfold dgT
    rw [List.range'_1_concat, List.map_append, List.map_append, Nat.zero_add]
    rfl
  rw [e]
theorem digits_ok {n d a r o : Nat} (hn : 2 ≤ n) (hn2 : n ≤ 36) (h : 2 ≤ d) (h2 : d ≤ 1000) (ha : spA n 10 d = a) (hr : spR n 10 d = r) (hr0 : 0 < r) (hr2 : r ≤ 1000) (ho : IsO n r o) (ho2 : o ≤ 1000) (ha2 : a ≤ 1000) :
    F_digits ⟨1, (d : Int)⟩ (n : Int) = some ⟨⟨(dgT n d 0 a).map sgn⟩, ⟨(dgT n d a (if r = 1 then 0 else o)).map sgn⟩⟩ := by
  unfold F_digits fb_digits
  simp only [bsome]
  rw [check_both_ok (by omega) (by omega) (by omega) (by omega)]
  simp only [bsome, seqO_nx]
  rw [lengths_of_ok h h2 hn2 ha hr hr0 hr2 ho ho2]
  have hk : (if r = 1 then 0 else o) ≤ 1000 := by split <;> omega
  generalize (if r = 1 then 0 else o) = k at *
  simp only [bsome, seqO_nx]
  rw [show (a : Int) + (k : Int) = ((a + k : Nat) : Int) by push_cast; rfl, rng1_eq (by omega) (by omega)]
  simp only [bsome]
  have e := forO_eq (set := fun (s : S_digits) (t : Int) => { s with v__ := t }) (b := lp_digits_0) (fun j => (⟨⟨1, (d : Int)⟩, (n : Int), (a : Int), (k : Int), ⟨(dgT n d 0 j).map sgn⟩, ((pv n d j : Nat) : Int), 0⟩ : S_digits)) (rng 0 ((a + k : Nat) : Int).toNat) (fun j x hx => by
    have hj := (List.getElem?_eq_some_iff.mp hx).1
    rw [rng_len] at hj
    exact dg_step hn hn2 h h2 (by omega) _ rfl rfl rfl rfl)
  rw [rng_len, Int.toNat_natCast] at e
  have e1 : ((pv n d 0 : Nat) : Int) = 1 := by unfold pv; rw [Nat.pow_zero, Nat.mod_eq_of_lt (by omega)]; rfl
  simp only [e1] at e
  rw [show dgT n d 0 0 = [] from rfl, List.map_nil] at e
  rw [Int.toNat_natCast, e]
  simp only [seqO_nx]
  have hlen : ((dgT n d 0 (a + k)).map sgn).length = a + k := by simp [dgT]
  rw [cutT_eq (by rw [hlen]; omega), cutT_eq (by rw [hlen]; omega), cut_to, cut_from]
  simp only [bsome, seqO_rt, outF_rt]
  have e2 : ((dgT n d 0 (a + k)).map sgn).take a = (dgT n d 0 a).map sgn := by
    rw [dgT_app, List.map_append, List.take_left' (by rw [List.length_map, dgT_len])]
  have e3 : ((dgT n d 0 (a + k)).map sgn).drop a = (dgT n d a k).map sgn := by
    rw [dgT_app, List.map_append, List.drop_left' (by rw [List.length_map, dgT_len])]
  rw [e2, e3]
end LW

set_option Elab.async false
set_option linter.all false
set_option maxRecDepth 100000
namespace LW
open PL
theorem ix_sgn {i : Int} (h : 0 ≤ i) (h2 : i < 36) : tIndex ⟨c_DIGITS_l⟩ ⟨[sgn i]⟩ = some i := by
  have : ∀ n : Fin 36, tIndex ⟨c_DIGITS_l⟩ ⟨[sgn ((n.val : Nat) : Int)]⟩ = some ((n.val : Nat) : Int) := by decide
  have q := this ⟨i.toNat, by omega⟩
  rwa [show (((⟨i.toNat, by omega⟩ : Fin 36).val : Nat) : Int) = i from by show ((i.toNat : Nat) : Int) = i; omega] at q
theorem in_sgn {i : Int} {b : Nat} (h : 0 ≤ i) (h2 : i < b) (hb : b ≤ 36) : tIn ⟨[sgn i]⟩ ⟨c_DIGITS_l.take b⟩ = some true := by
  have : ∀ b : Fin 37, ∀ n : Fin 36, n.val < b.val → tIn ⟨[sgn ((n.val : Nat) : Int)]⟩ ⟨c_DIGITS_l.take b.val⟩ = some true := by decide +kernel
  have q := this ⟨b, by omega⟩ ⟨i.toNat, by omega⟩ (by show i.toNat < b; omega)
  rwa [show (((⟨i.toNat, by omega⟩ : Fin 36).val : Nat) : Int) = i from by show ((i.toNat : Nat) : Int) = i; omega] at q
theorem read_of_loop {t : Tx} {b : Nat} (hb : 2 ≤ b) (hb2 : b ≤ 36) : ∀ (ds : List Int) (f j : Nat), f < 2 ^ (6 * j) → j + ds.length ≤ 1000 → (∀ d ∈ ds, 0 ≤ d ∧ d < b) →
    ∃ v : Nat, forO (fun (s : S_read_of) (t : Tx) => { s with v_digit := t }) lp_read_of_0 ((ds.map sgn).map fun c => (⟨[c]⟩ : Tx)) ⟨t, b, (f : Int), ⟨[]⟩⟩ = some (.nx ⟨t, b, (v : Int), ⟨[]⟩⟩) ∧ (v : Int) = ds.foldl (fun (f d : Int) => f * (b : Int) + d) (f : Int) ∧ v < 2 ^ (6 * (j + ds.length))
  | [], f, j, hf, hj, hd => ⟨f, rfl, rfl, by simpa using hf⟩
  | d :: ds, f, j, hf, hj, hd => by
    obtain ⟨d0, d1⟩ := hd d List.mem_cons_self
    obtain ⟨dn, rfl⟩ : ∃ n : Nat, d = (n : Int) := ⟨d.toNat, by omega⟩
    have hf2 : f * b + dn < 2 ^ (6 * (j + 1)) := by
      have h1 : 2 ^ (6 * (j + 1)) = 2 ^ (6 * j) * 64 := by rw [Nat.mul_add, Nat.pow_add]
      have h2 : f * b ≤ f * 36 := Nat.mul_le_mul_left f hb2
      omega
    rw [List.length_cons] at hj
    obtain ⟨v, h1, h2, h3⟩ := read_of_loop (t := t) hb hb2 ds (f * b + dn) (j + 1) hf2 (by omega) (fun x hx => hd x (List.mem_cons_of_mem _ hx))
    refine ⟨v, ?_, ?_, by rw [List.length_cons, show j + (ds.length + 1) = j + 1 + ds.length by omega]; exact h3⟩
    · rw [List.map_cons, List.map_cons, forO_cons]
      have c2 : lp_read_of_0 ⟨t, b, (f : Int), ⟨[sgn (dn : Int)]⟩⟩ = some (.nx ⟨t, b, ((f * b + dn : Nat) : Int), ⟨[]⟩⟩) := by
        unfold lp_read_of_0
        simp only [bsome]
        rw [iMul_big (k := 6 * j) (m := 6) hf (by omega) (by omega)]
        simp only [bsome]
        rw [ix_sgn (by omega) (by omega)]
        simp only [bsome, seqO_nx]
        push_cast
        rfl
      show seqO (lp_read_of_0 ⟨t, b, (f : Int), ⟨[sgn (dn : Int)]⟩⟩) _ = _
      rw [c2, seqO_nx, h1]
    · rw [h2, List.foldl_cons]
      push_cast
      rfl
theorem read_of_ok {b : Nat} (hb : 2 ≤ b) (hb2 : b ≤ 36) {ds : List Int} (hl : ds.length ≤ 1000) (hd : ∀ d ∈ ds, 0 ≤ d ∧ d < b) :
    ∃ v : Nat, F_read_of ⟨ds.map sgn⟩ (b : Int) = some (v : Int) ∧ (v : Int) = ds.foldl (fun (f d : Int) => f * (b : Int) + d) 0 ∧ v < 2 ^ (6 * ds.length) := by
  obtain ⟨v, h1, h2, h3⟩ := read_of_loop (t := ⟨ds.map sgn⟩) hb hb2 ds 0 0 (by decide) (by omega) hd
  refine ⟨v, ?_, h2, by rw [Nat.zero_add] at h3; exact h3⟩
  unfold F_read_of fb_read_of
  simp only [bsome, seqO_nx]
  rw [show (((0 : Nat)) : Int) = 0 from rfl] at h1
  rw [h1]
  simp only [seqO_nx, bsome, seqO_rt, outF_rt]
theorem fraction_ok {x d : Nat} (hx : 0 < x) (hx2 : x < 2 ^ 8000) (hd : 0 < d) : F_fraction (x : Int) ((x * d : Nat) : Int) = some ⟨1, (d : Int)⟩ := by
  unfold F_fraction fb_fraction
  simp only [bsome]
  have hp : 0 < x * d := Nat.mul_pos hx hd
  rw [decide_eq_false (show ¬ (((x * d : Nat)) : Int) < 0 by omega)]
  simp only [Bool.false_eq_true, if_false, seqO_nx]
  rw [gcd_cast, Nat.gcd_eq_left (Nat.dvd_mul_right x d)]
  rw [iDiv_big hx hx2 (by decide), iDiv_big hx hx2 (by decide)]
  simp only [bsome, seqO_rt, outF_rt]
  rw [Nat.div_self hx, Nat.mul_div_cancel_left _ hx]
  rfl
theorem fraction_one {x : Nat} (hx : 0 < x) : F_fraction 1 (x : Int) = some ⟨1, (x : Int)⟩ := by
  have := fraction_ok (x := 1) (d := x) (by decide) (by exact Nat.one_lt_two_pow (by decide)) hx
  rw [Nat.one_mul] at this
  exact this
theorem fraction_zero {x : Nat} (hx : 0 < x) (hx2 : x < 2 ^ 60) : F_fraction 0 (x : Int) = some ⟨0, 1⟩ := by
  unfold F_fraction fb_fraction
  simp only [bsome]
  rw [decide_eq_false (show ¬ ((x : Nat) : Int) < 0 by omega)]
  simp only [Bool.false_eq_true, if_false, seqO_nx]
  rw [show Nat.gcd (Int.natAbs 0) (Int.natAbs (x : Int)) = x by simp]
  rw [iDiv_eq (by omega) (by omega), iDiv_eq (by omega) (by omega)]
  simp only [bsome, seqO_rt, outF_rt]
  rw [Int.ediv_self (by omega), Int.zero_ediv]
theorem greedy_ok {d : Nat} (h : 2 ≤ d) (h2 : d ≤ 1000) : F_greedy ⟨1, (d : Int)⟩ = some [(d : Int)] := by
  unfold F_greedy fb_greedy
  simp only [bsome]
  rw [check_some_ok (by omega) (by omega)]
  simp only [bsome, seqO_nx]
  have hlu : F_least_unit ⟨1, (d : Int)⟩ = some (d : Int) := by
    unfold F_least_unit fb_least_unit
    simp only [bsome]
    rw [iDiv_eq (by decide) (by decide)]
    simp only [bsome, seqO_rt, outF_rt]
    rw [Int.ediv_one, Int.neg_neg]
  have hmin : F_minus ⟨1, (d : Int)⟩ ⟨1, (d : Int)⟩ = some ⟨0, 1⟩ := by
    unfold F_minus fb_minus
    simp only [bsome]
    rw [iMul_eq (by omega) (by omega), iMul_nat (by omega) (by omega)]
    simp only [bsome]
    rw [show (1 : Int) * (d : Int) - 1 * (d : Int) = 0 by omega, fraction_zero (Nat.mul_pos (by omega) (by omega)) (by
      have : d * d ≤ 1000 * 1000 := Nat.mul_le_mul h2 h2
      omega)]
    simp only [bsome, seqO_rt, outF_rt]
  have c1 : lc_greedy_1 ⟨⟨1, (d : Int)⟩, [], ⟨1, (d : Int)⟩, 0⟩ = some true := rfl
  have c2 : lp_greedy_0 ⟨⟨1, (d : Int)⟩, [], ⟨1, (d : Int)⟩, 0⟩ = some (.nx ⟨⟨1, (d : Int)⟩, [(d : Int)], ⟨0, 1⟩, 0⟩) := by
    unfold lp_greedy_0
    simp only [bsome]
    rw [hlu]
    simp only [bsome, seqO_nx]
    rw [push_eq (by simp)]
    simp only [bsome, seqO_nx]
    rw [hmin]
    rfl
  rw [show FUEL = 18446744073709551614 + 1 + 1 by decide, whileO_succ, c1, bsome, if_pos rfl, c2, seqO_nx, whileO_succ]
  rfl
theorem is_sum_ok {d x : Nat} (h : 2 ≤ d) (h2 : d ≤ 1000) (hx : 2 ≤ x) (hx2 : x ≤ 2000) : F_is_sum ⟨1, (d : Int)⟩ [(x : Int)] = some (decide (x = d)) := by
  have hpl : F_plus ⟨0, 1⟩ ⟨1, (x : Int)⟩ = some ⟨1, (x : Int)⟩ := by
    unfold F_plus fb_plus
    simp only [bsome]
    rw [iMul_eq (by decide) (by omega), iMul_eq (by decide) (by decide), iMul_eq (by decide) (by omega)]
    simp only [bsome]
    rw [show (0 : Int) * (x : Int) + 1 * 1 = 1 by omega, show (1 : Int) * (x : Int) = (x : Int) by omega, fraction_one (by omega)]
    simp only [bsome, seqO_rt, outF_rt]
  unfold F_is_sum fb_is_sum
  simp only [bsome]
  rw [check_some_ok (by omega) (by omega)]
  simp only [bsome, seqO_nx]
  rw [lNew_eq (by simp)]
  simp only [bsome]
  have hx1 : decide ((x : Int) > 1) = true := decide_eq_true (by omega)
  simp only [compO, bsome, if_true, hx1]
  have hz : cut [(x : Int)] (some ((1 : Nat) : Int)) none = [] := by rw [cut_from]; rfl
  rw [show (((1 : Nat)) : Int) = 1 from rfl] at hz
  rw [hz]
  simp only [bsome, List.map_cons, List.map_nil, List.all_cons, List.all_nil, id, Bool.and_true, Bool.not_true, Bool.false_eq_true, if_false, List.zipWith_nil_right]
  rw [lNew_eq (by simp)]
  simp only [bsome, compO, List.all_nil, Bool.not_true, Bool.false_eq_true, if_false, seqO_nx]
  rw [forO_cons]
  have c2 : lp_is_sum_0 ⟨⟨1, (d : Int)⟩, [(x : Int)], ⟨0, 1⟩, (x : Int)⟩ = some (.nx ⟨⟨1, (d : Int)⟩, [(x : Int)], ⟨1, (x : Int)⟩, 0⟩) := by
    unfold lp_is_sum_0
    simp only [bsome]
    rw [fraction_one (by omega)]
    simp only [bsome]
    rw [hpl]
    rfl
  rw [c2, seqO_nx, forO_nil, seqO_nx]
  have : dEq (T2.mk (1 : Int) (x : Int)) (T2.mk (1 : Int) (d : Int)) = some (decide (x = d)) := by
    unfold dEq
    rw [if_pos ⟨rfl, rfl⟩]
    congr 1
    by_cases c : x = d
    · rw [decide_eq_true c, c]; simp
    · rw [decide_eq_false c, decide_eq_false (fun z => c (by
        have := congrArg T2.b z
        have e : (x : Int) = (d : Int) := this
        omega))]
  rw [this]
  simp only [bsome, seqO_rt, outF_rt]
theorem zeros_of_loop {b c : Nat} (hb : 2 ≤ b) (hb2 : b ≤ 36) (hc : c % b ≠ 0) : ∀ (m f k : Nat), c * b ^ m < 2 ^ 60 → m < f → whileO lc_zeros_of_1 lp_zeros_of_0 f ⟨((c * b ^ m : Nat) : Int), (b : Int), (k : Int)⟩ = some (.nx ⟨(c : Int), (b : Int), ((k + m : Nat) : Int)⟩)
  | 0, f, k, h, hf => by
    obtain ⟨f, rfl⟩ : ∃ g, f = g + 1 := ⟨f - 1, by omega⟩
    rw [whileO_succ]
    unfold lc_zeros_of_1
    simp only [bsome]
    rw [iMod_nat (by omega), Nat.pow_zero, Nat.mul_one]
    simp only [bsome]
    rw [decide_eq_false (by omega)]
    rfl
  | m + 1, f, k, h, hf => by
    obtain ⟨f, rfl⟩ : ∃ g, f = g + 1 := ⟨f - 1, by omega⟩
    have e0 : c * b ^ (m + 1) = c * b ^ m * b := by rw [Nat.pow_succ, Nat.mul_assoc]
    have hle : c * b ^ m ≤ c * b ^ (m + 1) := by rw [e0]; exact Nat.le_mul_of_pos_right _ (by omega)
    have c1 : lc_zeros_of_1 ⟨((c * b ^ (m + 1) : Nat) : Int), (b : Int), (k : Int)⟩ = some true := by
      unfold lc_zeros_of_1
      simp only [bsome]
      rw [iMod_nat (by omega), e0, Nat.mul_mod_left]
      rfl
    have c2 : lp_zeros_of_0 ⟨((c * b ^ (m + 1) : Nat) : Int), (b : Int), (k : Int)⟩ = some (.nx ⟨((c * b ^ m : Nat) : Int), (b : Int), ((k + 1 : Nat) : Int)⟩) := by
      unfold lp_zeros_of_0
      simp only [bsome]
      rw [iDiv_nat (by omega) (by omega), e0, Nat.mul_div_cancel _ (by omega)]
      simp only [bsome, seqO_nx]
      push_cast
      rfl
    rw [whileO_succ, c1, bsome, if_pos rfl, c2, seqO_nx, zeros_of_loop hb hb2 hc m f (k + 1) (by omega) (by omega), show k + 1 + m = k + (m + 1) by omega]
theorem zeros_ok' {b c m : Nat} (hb : 2 ≤ b) (hb2 : b ≤ 36) (hc : c % b ≠ 0) (h1 : c * b ^ m ≤ 1000000) : F_zeros ((c * b ^ m : Nat) : Int) (b : Int) = some (m : Int) := by
  have hp : 0 < b ^ m := Nat.pow_pos (by omega)
  have hc0 : 0 < c := Nat.pos_of_ne_zero fun z => hc (by rw [z, Nat.zero_mod])
  have hcp : 0 < c * b ^ m := Nat.mul_pos hc0 hp
  have hm : m < 2 ^ 60 := by
    have q : m < 2 ^ m := Nat.lt_two_pow_self
    have q2 : 2 ^ m ≤ b ^ m := Nat.pow_le_pow_left hb m
    have q3 : b ^ m ≤ c * b ^ m := Nat.le_mul_of_pos_left _ hc0
    omega
  unfold F_zeros fb_zeros
  simp only [bsome]
  rw [check_numbers_ok (by omega) (by omega) (by
    intro t ht
    simp only [List.mem_cons, List.not_mem_nil, or_false] at ht
    subst ht
    exact ⟨by show (1 : Int) ≤ ((c * b ^ m : Nat) : Int); omega, by show ((c * b ^ m : Nat) : Int) ≤ 1000000; omega⟩)]
  simp only [bsome, seqO_nx]
  have e : F_zeros_of ((c * b ^ m : Nat) : Int) (b : Int) = some (m : Int) := by
    unfold F_zeros_of fb_zeros_of
    simp only [bsome, seqO_nx]
    have := zeros_of_loop hb hb2 hc m FUEL 0 (by omega) (by unfold FUEL; omega)
    rw [Nat.zero_add, show (((0 : Nat)) : Int) = 0 from rfl] at this
    rw [this]
    simp only [seqO_nx, bsome, seqO_rt, outF_rt]
  rw [e]
  simp only [bsome, seqO_rt, outF_rt]
end LW

set_option Elab.async false
set_option linter.all false
set_option maxRecDepth 100000
set_option exponentiation.threshold 10000
namespace LW
open PL
theorem dgT_mem {n d a k : Nat} (hn : 0 < n) (hd : 0 < d) {x : Int} (h : x ∈ dgT n d a k) : 0 ≤ x ∧ x < n := by
  unfold dgT at h
  obtain ⟨i, _, rfl⟩ := List.mem_map.mp h
  have := dg_lt (n := n) (d := d) (i := i) hn hd
  omega
theorem v_step {n d j : Nat} (hd : 0 < d) : n ^ (j + 1) / d = n ^ j / d * n + dg n d j := by
  have h := Nat.div_add_mod (n ^ j) d
  have e : n ^ (j + 1) = d * (n ^ j / d * n) + pv n d j * n := by
    have h2 : (d * (n ^ j / d) + n ^ j % d) * n = n ^ j * n := by rw [h]
    rw [Nat.pow_succ, ← h2, Nat.add_mul, Nat.mul_assoc]
    rfl
  rw [e, Nat.mul_add_div hd]
  rfl
theorem fold_dg {n d a : Nat} (hd : 0 < d) : ∀ k : Nat, ∃ W : Nat, (dgT n d a k).foldl (fun (f x : Int) => f * (n : Int) + x) 0 = (W : Int) ∧ W + n ^ a / d * n ^ k = n ^ (a + k) / d
  | 0 => ⟨0, rfl, by simp⟩
  | k + 1 => by
    obtain ⟨W, h1, h2⟩ := fold_dg (n := n) (a := a) hd k
    refine ⟨W * n + dg n d (a + k), ?_, ?_⟩
    · have e : dgT n d a (k + 1) = dgT n d a k ++ [((dg n d (a + k) : Nat) : Int)] := by
        unfold dgT
        rw [List.range'_1_concat, List.map_append]
        rfl
      rw [e, List.foldl_append, h1]
      show (W : Int) * (n : Int) + ((dg n d (a + k) : Nat) : Int) = _
      push_cast
      rfl
    · rw [show a + (k + 1) = a + k + 1 by omega, v_step hd, ← h2, Nat.pow_succ, Nat.add_mul, ← Nat.mul_assoc]
      omega
theorem chk_txt {n : Nat} (hn : 2 ≤ n) (hn2 : n ≤ 36) {ds : List Int} (hl : ds.length ≤ 60) (hd : ∀ x ∈ ds, 0 ≤ x ∧ x < n) (s : S_part_of) (h1 : s.v_base = (n : Int)) (h2 : s.v_text = ⟨ds.map sgn⟩) :
    lp_part_of_0 s = some (.nx { s with v_k := 0, v_text := ⟨[]⟩ }) := by
  unfold lp_part_of_0
  simp only [bsome, h1, h2, List.length_map]
  rw [if_pos (by rw [sizeLine_val]; omega)]
  simp only [bsome]
  rw [decide_eq_false (show ¬ ((ds.length : Int) > 60) by omega)]
  simp only [Bool.false_eq_true, if_false]
  rw [lNew_eq (by simp; omega)]
  simp only [bsome]
  rw [compO_all (t := fun s : S_part_of × Tx => some true) (set := fun t : Tx => (s, t)) (h := fun _ => true) (xs := (ds.map sgn).map fun c => (⟨[c]⟩ : Tx)) (fun x _ => rfl) (fun x hx => by
    obtain ⟨c, hc, rfl⟩ := List.mem_map.mp hx
    obtain ⟨y, hy, rfl⟩ := List.mem_map.mp hc
    obtain ⟨y0, y1⟩ := hd y hy
    show ((cutT ⟨c_DIGITS_l⟩ none (some s.v_base)).bind fun x161 => tIn ⟨[sgn y]⟩ x161) = some true
    rw [h1, cutT_eq (by decide), bsome, cut_to]
    exact in_sgn y0 y1 hn2)]
  simp only [bsome]
  have ha : (List.map (fun _ => true) (List.map (fun c => (⟨[c]⟩ : Tx)) (ds.map sgn))).all id = true := by
    rw [List.all_eq_true]
    intro b hb
    obtain ⟨_, _, rfl⟩ := List.mem_map.mp hb
    rfl
  rw [ha]
  simp only [Bool.not_true, Bool.false_eq_true, if_false, seqO_nx, h1]
theorem pow_bd {n j : Nat} (hn : n ≤ 36) : n ^ j < 2 ^ (6 * j + 1) := by
  have h1 : n ^ j ≤ (2 ^ 6) ^ j := Nat.pow_le_pow_left (by omega) j
  rw [← Nat.pow_mul] at h1
  have h2 : 2 ^ (6 * j + 1) = 2 ^ (6 * j) * 2 := Nat.pow_succ ..
  have h3 : 0 < 2 ^ (6 * j) := Nat.pow_pos (by decide)
  omega
theorem part_of_ok {n d a k : Nat} (hn : 2 ≤ n) (hn2 : n ≤ 36) (h : 2 ≤ d) (h2 : d ≤ 1000) (ha : a ≤ 60) (hk : k ≤ 60) (hr : k = 0 → n ^ a % d = 0) (hr2 : n ^ a % d = n ^ (a + k) % d) :
    F_part_of ⟨(dgT n d 0 a).map sgn⟩ ⟨(dgT n d a k).map sgn⟩ (n : Int) = some ⟨1, (d : Int)⟩ := by
  have hd : 0 < d := by omega
  unfold F_part_of fb_part_of
  simp only [bsome]
  rw [check_base_ok (by omega) (by omega)]
  simp only [bsome, seqO_nx]
  rw [show [(⟨(dgT n d 0 a).map sgn⟩ : Tx), ⟨(dgT n d a k).map sgn⟩].zipIdx.map (fun q => T2.mk (q.2 : Int) q.1) = [T2.mk 0 ⟨(dgT n d 0 a).map sgn⟩, T2.mk 1 ⟨(dgT n d a k).map sgn⟩] from rfl]
  rw [forO_cons, chk_txt (ds := dgT n d 0 a) hn hn2 (by rw [dgT_len]; exact ha) (fun x hx => dgT_mem (by omega) hd hx) _ rfl rfl, seqO_nx, forO_cons, chk_txt (ds := dgT n d a k) hn hn2 (by rw [dgT_len]; exact hk) (fun x hx => dgT_mem (by omega) hd hx) _ rfl rfl, seqO_nx, forO_nil]
  simp only [seqO_nx]
  have hb1 := forO_eq (set := fun (s : S_part_of) (t : Tx) => { s with v__ := t }) (b := lp_part_of_1) (fun j => (⟨⟨(dgT n d 0 a).map sgn⟩, ⟨(dgT n d a k).map sgn⟩, (n : Int), 0, ⟨[]⟩, ((n ^ j : Nat) : Int), ⟨[]⟩, 0⟩ : S_part_of)) (((dgT n d 0 a).map sgn).map fun c => (⟨[c]⟩ : Tx)) (fun j x hx => by
    have hj := (List.getElem?_eq_some_iff.mp hx).1
    simp only [List.length_map, dgT_len] at hj
    unfold lp_part_of_1
    simp only [bsome]
    rw [iMul_big (k := 6 * j + 1) (m := 6) (pow_bd hn2) (by omega) (by omega), ← Nat.pow_succ]
    rfl)
  simp only [List.length_map, dgT_len, Nat.pow_zero] at hb1
  rw [show (((1 : Nat)) : Int) = 1 from rfl] at hb1
  rw [hb1]
  simp only [seqO_nx]
  obtain ⟨A, rA, fA, bA⟩ := read_of_ok hn hn2 (ds := dgT n d 0 a) (by rw [dgT_len]; omega) (fun x hx => dgT_mem (by omega) hd hx)
  obtain ⟨A2, gA, eA⟩ := fold_dg (n := n) (d := d) (a := 0) hd a
  have hA : A = n ^ a / d := by
    rw [Nat.pow_zero, Nat.div_eq_of_lt (by omega), Nat.zero_mul, Nat.zero_add, Nat.add_zero] at eA
    have : (A : Int) = (A2 : Int) := fA.trans gA
    omega
  have hpa := pow_bd (j := a) hn2
  have hdm := Nat.div_add_mod (n ^ a) d
  have hpos : 0 < n ^ a := Nat.pow_pos (by omega)
  have lim : ∀ j, j ≤ 121 → 2 ^ (6 * j + 1) < 2 ^ 8000 := fun j hj => Nat.pow_lt_pow_right (by decide) (by omega)
  by_cases hk0 : k = 0
  · subst hk0
    rw [decide_eq_true (show (⟨(dgT n d a 0).map sgn⟩ : Tx) = ⟨[]⟩ from rfl)]
    simp only [if_true]
    rw [rA]
    simp only [bsome]
    have h0 := hr rfl
    rw [h0, Nat.add_zero, ← hA] at hdm
    have hA0 : 0 < A := Nat.pos_of_ne_zero fun z => by rw [z] at hdm; omega
    have hle : A ≤ n ^ a := by rw [← hdm]; exact Nat.le_mul_of_pos_left _ hd
    rw [← hdm, Nat.mul_comm d A, fraction_ok hA0 (Nat.lt_of_le_of_lt hle (Nat.lt_trans hpa (lim a (by omega)))) hd]
    simp only [bsome, seqO_rt, outF_rt]
  · rw [decide_eq_false (show ¬ (⟨(dgT n d a k).map sgn⟩ : Tx) = ⟨[]⟩ from fun z => by
      have := congrArg (fun t : Tx => t.cs.length) z
      simp [dgT_len] at this
      exact hk0 this)]
    simp only [Bool.false_eq_true, if_false, seqO_nx]
    have hb2 := forO_eq (set := fun (s : S_part_of) (t : Tx) => { s with v__ := t }) (b := lp_part_of_2) (fun j => (⟨⟨(dgT n d 0 a).map sgn⟩, ⟨(dgT n d a k).map sgn⟩, (n : Int), 0, ⟨[]⟩, ((n ^ a : Nat) : Int), ⟨[]⟩, ((n ^ j : Nat) : Int)⟩ : S_part_of)) (((dgT n d a k).map sgn).map fun c => (⟨[c]⟩ : Tx)) (fun j x hx => by
      have hj := (List.getElem?_eq_some_iff.mp hx).1
      simp only [List.length_map, dgT_len] at hj
      unfold lp_part_of_2
      simp only [bsome]
      rw [iMul_big (k := 6 * j + 1) (m := 6) (pow_bd hn2) (by omega) (by omega), ← Nat.pow_succ]
      rfl)
    simp only [List.length_map, dgT_len] at hb2
    rw [Nat.pow_zero, show (((1 : Nat)) : Int) = 1 from rfl] at hb2
    rw [hb2]
    simp only [seqO_nx]
    obtain ⟨B, rB, fB, bB⟩ := read_of_ok hn hn2 (ds := dgT n d a k) (by rw [dgT_len]; omega) (fun x hx => dgT_mem (by omega) hd hx)
    obtain ⟨B2, gB, eB⟩ := fold_dg (n := n) (d := d) (a := a) hd k
    have hB : B = B2 := by
      have : (B : Int) = (B2 : Int) := fB.trans gB
      omega
    subst hB
    rw [← hA] at eB
    have hN : 2 ≤ n ^ k := by
      have : n ^ 1 ≤ n ^ k := Nat.pow_le_pow_right (by omega) (by omega)
      rw [Nat.pow_one] at this
      omega
    have hpk := pow_bd (j := k) hn2
    rw [rA, rB]
    simp only [bsome]
    have cN : (((n ^ k : Nat)) : Int) - 1 = ((n ^ k - 1 : Nat) : Int) := by omega
    rw [cN]
    rw [iMul_big (k := 6 * a) (m := 6 * k + 1) (by rw [dgT_len] at bA; exact bA) (by omega) (by omega), iMul_big (k := 6 * a + 1) (m := 6 * k + 1) hpa (by omega) (by omega)]
    simp only [bsome]
    have hdm2 := Nat.div_add_mod (n ^ (a + k)) d
    rw [← hr2, ← eB] at hdm2
    rw [← hA] at hdm
    -- x = A (N - 1) + B, x d = n^a (N - 1)
    have e1 : A * (n ^ k - 1) + A = A * n ^ k := by
      rw [← Nat.mul_succ]
      congr 1
      omega
    have e2 : n ^ a * (n ^ k - 1) + n ^ a = n ^ (a + k) := by
      rw [← Nat.mul_succ, Nat.pow_add]
      congr 1
      omega
    have e3 : (A * (n ^ k - 1) + B) * d = n ^ a * (n ^ k - 1) := by
      have : d * (B + A * n ^ k) = d * (A * (n ^ k - 1) + B) + d * A := by
        rw [← Nat.mul_add]
        congr 1
        omega
      rw [Nat.mul_comm]
      omega
    have hx0 : 0 < A * (n ^ k - 1) + B := Nat.pos_of_ne_zero fun z => by
      rw [z, Nat.zero_mul] at e3
      have := Nat.mul_pos hpos (show 0 < n ^ k - 1 by omega)
      omega
    rw [show ((A * (n ^ k - 1) : Nat) : Int) + (B : Int) = ((A * (n ^ k - 1) + B : Nat) : Int) by push_cast; rfl, ← e3]
    have hle : A * (n ^ k - 1) + B ≤ n ^ (a + k) := by
      have : A * (n ^ k - 1) + B ≤ (A * (n ^ k - 1) + B) * d := Nat.le_mul_of_pos_right _ hd
      omega
    rw [fraction_ok hx0 (Nat.lt_of_le_of_lt hle (Nat.lt_trans (pow_bd hn2) (lim (a + k) (by omega)))) hd]
    simp only [bsome, seqO_rt, outF_rt]
end LW

set_option Elab.async false
set_option linter.all false
set_option maxRecDepth 100000
namespace LW
open PL
theorem dz_val {b : Nat} (hb : 2 ≤ b) : ∀ (k r : Nat), r < 2 ^ k → (dz b k r).foldr (fun d f => f * (b : Int) + d) 0 = (r : Int)
  | 0, r, h => by
    have : r = 0 := by simpa using h
    subst this
    rfl
  | k + 1, r, h => by
    unfold dz
    by_cases h0 : r = 0
    · rw [if_pos h0, h0]; rfl
    · rw [if_neg h0, List.foldr_cons, dz_val hb k (r / b) (half_lt hb h)]
      have := Nat.div_add_mod r b
      have h2 : ((r / b : Nat) : Int) * (b : Int) + ((r % b : Nat) : Int) = ((b * (r / b) + r % b : Nat) : Int) := by push_cast; rw [Int.mul_comm]
      rw [h2, this]
theorem dgs_val {b n : Nat} (hb : 2 ≤ b) (hn : n < 2 ^ 64) : (dgs b n).foldr (fun d f => f * (b : Int) + d) 0 = (n : Int) := by
  unfold dgs
  rw [List.foldr_cons, dz_val hb 64 (n / b) (by have := Nat.div_le_self n b; omega)]
  have := Nat.div_add_mod n b
  have h2 : ((n / b : Nat) : Int) * (b : Int) + ((n % b : Nat) : Int) = ((b * (n / b) + n % b : Nat) : Int) := by push_cast; rw [Int.mul_comm]
  rw [h2, this]
theorem dNe_t2 (x y : T2 Int Int) : dNe x y = some (!decide (x = y)) := if_pos ⟨rfl, rfl⟩
theorem dNe_li (x y : List Int) : dNe x y = some (!decide (x = y)) := by
  unfold dNe
  rw [if_pos]
  have h : ∀ l : List Int, EqT.ok l = true := fun l => by
    show l.all (fun _ => true) = true
    simp
  exact ⟨h x, h y⟩
theorem sgn_zero {i : Int} (h : 0 ≤ i) (h2 : i < 36) (e : sgn i = 48) : i = 0 := by
  have : ∀ n : Fin 36, sgn ((n.val : Nat) : Int) = 48 → n.val = 0 := by decide
  have q := this ⟨i.toNat, by omega⟩ (by
    show sgn ((i.toNat : Nat) : Int) = 48
    rw [show ((i.toNat : Nat) : Int) = i by omega]
    exact e)
  have q2 : i.toNat = 0 := q
  omega
theorem fold_zero {b : Int} : ∀ {ds : List Int}, (∀ d ∈ ds, d = 0) → ds.foldr (fun d f => f * b + d) 0 = 0
  | [], _ => rfl
  | d :: ds, h => by
    rw [List.foldr_cons, fold_zero fun x hx => h x (List.mem_cons_of_mem _ hx), h d List.mem_cons_self]
    simp
theorem wd_zero_iff {m b x : Nat} (hb : 2 ≤ b) (hb2 : b ≤ 36) (hm : 1 ≤ m) (hx : x < 2 ^ 64) : wd m b x = ⟨List.replicate m 48⟩ ↔ x = 0 := by
  constructor
  · intro h
    have h1 : (wd m b x).cs = List.replicate m 48 := by rw [h]
    have h2 : ∀ d ∈ dgs b x, d = 0 := fun d hd => by
      have hr := dgs_mem (b := b) (n := x) (by omega) hd
      have hmem : sgn d ∈ (wd m b x).cs := by
        unfold wd
        refine List.mem_append_right _ ?_
        unfold wr
        exact List.mem_map_of_mem (List.mem_reverse.mpr hd)
      rw [h1] at hmem
      exact sgn_zero hr.1 (by omega) (List.mem_replicate.mp hmem).2
    have h3 := dgs_val hb hx
    rw [fold_zero h2] at h3
    omega
  · rintro rfl
    have e : wr b 0 = ⟨[48]⟩ := by
      unfold wr dgs
      rw [Nat.zero_mod, Nat.zero_div]
      rfl
    unfold wd
    rw [e]
    show (⟨List.replicate (m - 1) 48 ++ [48]⟩ : Tx) = _
    congr 1
    obtain ⟨k, rfl⟩ : ∃ k, m = k + 1 := ⟨m - 1, by omega⟩
    rw [Nat.add_sub_cancel, List.replicate_succ']
theorem dec_iff {p q : Prop} [Decidable p] [Decidable q] (h : p ↔ q) : decide p = decide q := by
  by_cases c : p
  · rw [decide_eq_true c, decide_eq_true (h.mp c)]
  · rw [decide_eq_false c, decide_eq_false fun z => c (h.mpr z)]
theorem body_ok {ns l : List Int} {turn : Int} (hb : BdD l) (hl : l.length ≤ 3780) (h0 : 0 ≤ turn) (h1 : turn < 5) :
    lp_law_1 ⟨ns, l, turn, 0, 0, 0, 0, 0, 0, 0, false, ⟨[]⟩, ⟨[]⟩⟩ = some (.nx ⟨ns, l, 0, 0, 0, 0, 0, 0, 0, 0, false, ⟨[]⟩, ⟨[]⟩⟩) := by
  unfold lp_law_1
  simp only [bsome]
  obtain ⟨r1, e1, p1, q1⟩ := mix_ok hb hl (k := turn) (m := 11) (by omega) (by omega) (by decide)
  obtain ⟨r2, e2, p2, q2⟩ := mix_ok hb hl (k := 5 + turn) (m := 3) (by omega) (by omega) (by decide)
  rw [e1]
  simp only [bsome, seqO_nx]
  rw [e2]
  simp only [bsome, seqO_nx]
  obtain ⟨b, hbb⟩ : ∃ b : Nat, 2 + r1 = (b : Int) := ⟨(2 + r1).toNat, by omega⟩
  obtain ⟨m, hmm⟩ : ∃ m : Nat, 1 + r2 = (m : Int) := ⟨(1 + r2).toNat, by omega⟩
  rw [hbb, hmm]
  rw [rng1_eq (by omega) (by omega)]
  simp only [bsome]
  have e3 := forO_eq (set := fun (s : S_law) (t : Int) => { s with v_step := t }) (b := lp_law_0) (fun j => (⟨ns, l, turn, (b : Int), (m : Int), ((b ^ (j + 1) : Nat) : Int), 0, 0, 0, 0, false, ⟨[]⟩, ⟨[]⟩⟩ : S_law)) (rng 0 ((m : Int) - 1).toNat) (fun j x hx => by
    have hj := (List.getElem?_eq_some_iff.mp hx).1
    rw [rng_len] at hj
    unfold lp_law_0
    simp only [bsome]
    rw [iMul_big (k := 6 * (j + 1) + 1) (m := 6) (pow_bd (by omega)) (by omega) (by omega), ← Nat.pow_succ]
    rfl)
  rw [rng_len] at e3
  simp only [Nat.zero_add, Nat.pow_one] at e3
  rw [e3, show ((m : Int) - 1).toNat + 1 = m by omega]
  simp only [seqO_nx]
  obtain ⟨m', hm1, hm3, hle, key⟩ : ∃ m' : Nat, 1 ≤ m' ∧ m' ≤ 3 ∧ b ^ m' ≤ 1000 ∧ (if decide (((b ^ m : Nat) : Int) > 1000) = true then some (Out.nx (⟨ns, l, turn, (b : Int), 1, (b : Int), 0, 0, 0, 0, false, ⟨[]⟩, ⟨[]⟩⟩ : S_law)) else some (Out.nx (⟨ns, l, turn, (b : Int), (m : Int), ((b ^ m : Nat) : Int), 0, 0, 0, 0, false, ⟨[]⟩, ⟨[]⟩⟩ : S_law))) = (some (.nx ⟨ns, l, turn, (b : Int), (m' : Int), ((b ^ m' : Nat) : Int), 0, 0, 0, 0, false, ⟨[]⟩, ⟨[]⟩⟩) : Option (Out S_law Bool)) := by
    by_cases c : b ^ m > 1000
    · refine ⟨1, by omega, by omega, by rw [Nat.pow_one]; omega, ?_⟩
      rw [decide_eq_true (by omega), if_pos rfl, Nat.pow_one]
      rfl
    · refine ⟨m, by omega, by omega, by omega, ?_⟩
      rw [decide_eq_false (by omega), if_neg (by decide)]
  rw [key]
  simp only [seqO_nx]
  obtain ⟨r3, e4, p3, q3⟩ := mix_ok hb hl (k := 10 + turn) (m := 35) (by omega) (by omega) (by decide)
  rw [e4]
  simp only [bsome, seqO_nx]
  obtain ⟨n, hnn⟩ : ∃ n : Nat, 2 + r3 = (n : Int) := ⟨(2 + r3).toNat, by omega⟩
  rw [hnn]
  have hd2 : 2 ≤ b ^ m' := by
    have : b ^ 1 ≤ b ^ m' := Nat.pow_le_pow_right (by omega) hm1
    rw [Nat.pow_one] at this
    omega
  have hz1 := zeros_ok' (b := b) (c := 1) (m := m') (by omega) (by omega) (by rw [Nat.mod_eq_of_lt (by omega)]; decide) (by omega)
  have hz2 := zeros_ok' (b := b) (c := b ^ m' + 1) (m := 0) (by omega) (by omega) (by
    obtain ⟨j, rfl⟩ : ∃ j, m' = j + 1 := ⟨m' - 1, by omega⟩
    rw [Nat.pow_succ, Nat.mul_comm, Nat.mul_add_mod, Nat.mod_eq_of_lt (by omega)]
    decide) (by rw [Nat.pow_zero, Nat.mul_one]; omega)
  rw [Nat.one_mul] at hz1
  rw [Nat.pow_zero, Nat.mul_one, show (((b ^ m' + 1 : Nat)) : Int) = ((b ^ m' : Nat) : Int) + 1 by push_cast; rfl, show (((0 : Nat)) : Int) = 0 from rfl] at hz2
  have ld := fun e he => last_digits_ok (n := n) (e := e) (m := m') (b := b) (by omega) (by omega) (by omega) he hm1 (by omega) (by omega)
  have wz := fun x hx => wd_zero_iff (m := m') (b := b) (x := x) (by omega) (by omega) hm1 hx
  have ca := fun P a h1 h2 h3 h4 => comes_again_ok (n := n) (m := m') (b := b) (P := P) (a := a) (by omega) (by omega) hm1 hm3 (by omega) h1 h2 h3 h4
  generalize hde : b ^ m' = d at *
  have hd : 0 < d := by omega
  have S := spl_ok (n := n) 10 d hd (by omega)
  generalize hA : spA n 10 d = a at *
  generalize hR : spR n 10 d = r at *
  obtain ⟨o, hO, hPle, hpa, hu⟩ := ord_met hd S
  have ho := hO.pos
  have hrd : r ≤ d := Nat.le_of_dvd hd S.dvd
  have hL : F_lengths ⟨1, (d : Int)⟩ (n : Int) = some ⟨(a : Int), ((if r = 1 then 0 else o : Nat) : Int)⟩ := by
    unfold F_lengths fb_lengths
    simp only [bsome]
    rw [check_both_ok (by omega) (by omega) (by omega) (by omega)]
    simp only [bsome, seqO_nx]
    rw [lengths_of_ok hd2 hle (by omega) hA hR S.pos (by omega) hO (by omega)]
    simp only [bsome, seqO_rt, outF_rt]
  have hE : F_ends ⟨1, (d : Int)⟩ (n : Int) = some (decide (r = 1)) := by
    unfold F_ends fb_ends
    simp only [bsome]
    rw [check_both_ok (by omega) (by omega) (by omega) (by omega)]
    simp only [bsome, seqO_nx]
    rw [split_ok hd hle, hA, hR]
    simp only [bsome, seqO_rt, outF_rt]
    rw [dec_iff (show ((r : Int) = 1) ↔ r = 1 by omega)]
  have hD := digits_ok (n := n) (by omega) (by omega) hd2 hle hA hR S.pos (by omega) hO (by omega) (by omega)
  have hr1 : r = 1 → o = 1 := fun e => by
    rcases Nat.lt_or_ge 1 o with c | c
    · exact absurd (by rw [e, Nat.mod_one, Nat.mod_one]) (hO.min 1 (by decide) c)
    · omega
  rw [hL]
  simp only [bsome, seqO_nx]
  rw [ca (a + o) a hPle (by omega) hpa hu]
  simp only [bsome]
  rw [dNe_t2, show (((a + o : Nat)) : Int) - (a : Int) = max 1 ((if r = 1 then 0 else o : Nat) : Int) by
    by_cases c : r = 1
    · rw [if_pos c, hr1 c]; omega
    · rw [if_neg c]; omega]
  simp only [bsome, decide_true, Bool.not_true, Bool.false_eq_true, if_false, seqO_nx]
  rw [hE]
  simp only [bsome, seqO_nx]
  have hlt3 : n ^ (a + 3) % d < d := Nat.mod_lt _ hd
  have l3 := ld (a + 3) (by omega)
  rw [show (((a + 3 : Nat)) : Int) = (a : Int) + 3 by push_cast; rfl] at l3
  rw [l3]
  simp only [bsome]
  have hrep : tRep ⟨[48]⟩ (m' : Int) = some ⟨List.replicate m' 48⟩ := by
    show (if -(2 ^ 62) ≤ (m' : Int) ∧ (m' : Int) ≤ 16777216 then some (⟨List.replicate (m' : Int).toNat 48⟩ : Tx) else none) = _
    rw [if_pos (by omega), Int.toNat_natCast]
  rw [hrep]
  simp only [bsome]
  rw [dec_iff ((wz _ (by omega)).trans (S.zero (k := a + 3) (by omega)))]
  have hk : ∀ x : Nat, x = (if r = 1 then 0 else o) → decide ((x : Int) = 0) = decide (r = 1) := fun x hx => dec_iff (by
    constructor
    · intro z
      by_cases c : r = 1
      · exact c
      · rw [if_neg c] at hx; omega
    · intro c
      rw [if_pos c] at hx; omega)
  rw [hk _ rfl]
  simp only [bsome, decide_true, Bool.not_true, Bool.false_eq_true, if_false, seqO_nx]
  rw [hD]
  simp only [bsome, seqO_nx, List.length_map, dgT_len]
  generalize hke : (if r = 1 then 0 else o) = k at *
  have hk1000 : k ≤ 1000 := by
    by_cases c : r = 1
    · rw [if_pos c] at hke; omega
    · rw [if_neg c] at hke; omega
  rw [if_pos (by rw [sizeLine_val]; omega), if_pos (by rw [sizeLine_val]; omega)]
  simp only [bsome, decide_true, Bool.not_true, Bool.false_eq_true, if_false]
  have hpart : (if decide ((a : Int) < 61) = true then if decide ((k : Int) < 61) = true then (F_part_of ⟨(dgT n d 0 a).map sgn⟩ ⟨(dgT n d a k).map sgn⟩ (n : Int)).bind fun x1004 => dNe x1004 ⟨1, (d : Int)⟩ else some false else some false) = some false := by
    by_cases c1 : a ≤ 60
    · by_cases c2 : k ≤ 60
      · rw [decide_eq_true (by omega), decide_eq_true (by omega), if_pos rfl, if_pos rfl]
        rw [part_of_ok (by omega) (by omega) hd2 hle c1 c2 (fun z => (S.zero (Nat.le_refl _)).mpr (by
          by_cases c : r = 1
          · exact c
          · rw [if_neg c] at hke; omega)) (by
          by_cases c : r = 1
          · rw [if_pos c] at hke
            rw [← hke, Nat.add_zero]
          · rw [if_neg c] at hke
            rw [← hke]
            exact hpa)]
        simp only [bsome]
        rw [dNe_t2]
        simp
      · rw [decide_eq_false (show ¬ (k : Int) < 61 by omega)]
        simp
    · rw [decide_eq_false (show ¬ (a : Int) < 61 by omega)]
      simp
  rw [hpart]
  simp only [bsome, Bool.false_eq_true, if_false, seqO_nx]
  rw [greedy_ok hd2 hle]
  have s1 := is_sum_ok (d := d) (x := d) hd2 hle (by omega) (by omega)
  have s2 := is_sum_ok (d := d) (x := d + 1) hd2 hle (by omega) (by omega)
  rw [show (((d + 1 : Nat)) : Int) = (d : Int) + 1 by push_cast; rfl, decide_eq_false (show ¬ d + 1 = d by omega)] at s2
  rw [decide_eq_true rfl] at s1
  simp only [bsome]
  rw [dNe_li, s1, s2]
  simp only [bsome, decide_true, Bool.not_true, Bool.false_eq_true, if_false, seqO_nx]
  rw [hz1, hz2]
  simp only [bsome, decide_true, Bool.not_true, Bool.false_eq_true, if_false, seqO_nx]
theorem law_true (ns : List Int) (h : ns.length ≤ 63) : F_law ns = some true := by
  unfold F_law fb_law
  simp only [bsome]
  obtain ⟨l, e, hl, hb⟩ := draws_ok ns h
  rw [e]
  simp only [bsome, seqO_nx]
  rw [rng1_eq (by decide) (by decide)]
  simp only [bsome]
  rw [forO_same (g := (⟨ns, l, 0, 0, 0, 0, 0, 0, 0, 0, false, ⟨[]⟩, ⟨[]⟩⟩ : S_law)) fun x hx => by
    have h1 := rng_mem hx
    exact body_ok hb hl (by omega) (by omega)]
  simp only [seqO_nx]
  rfl
end LW

open PySem PySem.Spec PySem.W PyProof.Rows L2 PL LW
set_option maxHeartbeats 0 in
theorem PySem.Challenge.cw_reckonedbyhand_k97_whole_periods_of_part_holds : PySem.Challenge.rw_reckonedbyhand_k97_whole_periods_of_part.Holds := by
  w_on; o_law; k_head; (case hw => w_witness2)
  k_fill
  refine PL.walk_at (l := PySem.Challenge.rw_reckonedbyhand_k97_whole_periods_of_part) (n := 63) (x := "script") (sp := fun w => spF _ N_law 1 sa_law .a (fun a => F_law a.1)) rfl (by decide) rfl (fun w h Y => PySem.W.kIn_of Y) ?F (fun w H a ns hl hS => sp_law .b nofun hS (LW.law_true ns hl) (j := 12) rfl rfl)
  case F =>
    intro w mg fa h KX G hmg
    obtain ⟨T, e, hb⟩ : ∃ T : LW.Top _ mg, T.a_law = fa ∧ (∀ (s : Shared) (u : Value), BindsTo s T.d_law ⟨[u], []⟩ [("script", u)]) := by
      refine' LW.mk_top KX G hmg ?a__law_draws ?l__law_draws ?c__law_draws ?k__law_draws ?a_is_fraction ?l_is_fraction ?c_is_fraction ?k_is_fraction ?a_check_part ?l_check_part ?c_check_part ?k_check_part ?a_check_base ?l_check_base ?c_check_base ?k_check_base ?a_check_both ?l_check_both ?c_check_both ?k_check_both ?a_split ?l_split ?c_split ?k_split ?a_lengths_of ?l_lengths_of ?c_lengths_of ?k_lengths_of ?a_lengths ?l_lengths ?c_lengths ?k_lengths ?a_ends ?l_ends ?c_ends ?k_ends ?a_digits ?l_digits ?c_digits ?k_digits ?a__law_mix ?l__law_mix ?c__law_mix ?k__law_mix ?a_check_numbers ?l_check_numbers ?c_check_numbers ?k_check_numbers ?a_power_of ?l_power_of ?c_power_of ?k_power_of ?a_comes_again ?l_comes_again ?c_comes_again ?k_comes_again ?a_check_some ?l_check_some ?c_check_some ?k_check_some ?a_least_unit ?l_least_unit ?c_least_unit ?k_least_unit ?a_fraction ?l_fraction ?c_fraction ?k_fraction ?a_minus ?l_minus ?c_minus ?k_minus ?a_greedy ?l_greedy ?c_greedy ?k_greedy ?a_plus ?l_plus ?c_plus ?k_plus ?a_is_sum ?l_is_sum ?c_is_sum ?k_is_sum ?a_zeros_of ?l_zeros_of ?c_zeros_of ?k_zeros_of ?a_zeros ?l_zeros ?c_zeros ?k_zeros ?a_digits_of ?l_digits_of ?c_digits_of ?k_digits_of ?a_write_of ?l_write_of ?c_write_of ?k_write_of ?a_power_rest ?l_power_rest ?c_power_rest ?k_power_rest ?a_last_digits ?l_last_digits ?c_last_digits ?k_last_digits ?a_read_of ?l_read_of ?c_read_of ?k_read_of ?a_part_of ?l_part_of ?c_part_of ?k_part_of ?a_law ?l_law ?c_law ?k_law ?z_abs ?z_all ?z_enumerate ?z_int ?z_len ?z_max ?z_min ?z_range ?z_tuple ?z_zip ?q_DIGITS ?q_GREATEST_BASE ?q_LEAST_BASE ?q_MOST_AGAIN ?q_MOST_BASE ?q_MOST_DIGITS ?q_MOST_LISTED ?q_MOST_NUMBER ?q_MOST_SECOND ?q_gcd
      (case a__law_draws => k_is)
      (case l__law_draws => k_is)
      (case c__law_draws => k_is)
      (case k__law_draws => k_is)
      (case a_is_fraction => k_is)
      (case l_is_fraction => k_is)
      (case c_is_fraction => k_is)
      (case k_is_fraction => k_is)
      (case a_check_part => k_is)
      (case l_check_part => k_is)
      (case c_check_part => k_is)
      (case k_check_part => k_is)
      (case a_check_base => k_is)
      (case l_check_base => k_is)
      (case c_check_base => k_is)
      (case k_check_base => k_is)
      (case a_check_both => k_is)
      (case l_check_both => k_is)
      (case c_check_both => k_is)
      (case k_check_both => k_is)
      (case a_split => k_is)
      (case l_split => k_is)
      (case c_split => k_is)
      (case k_split => k_is)
      (case a_lengths_of => k_is)
      (case l_lengths_of => k_is)
      (case c_lengths_of => k_is)
      (case k_lengths_of => k_is)
      (case a_lengths => k_is)
      (case l_lengths => k_is)
      (case c_lengths => k_is)
      (case k_lengths => k_is)
      (case a_ends => k_is)
      (case l_ends => k_is)
      (case c_ends => k_is)
      (case k_ends => k_is)
      (case a_digits => k_is)
      (case l_digits => k_is)
      (case c_digits => k_is)
      (case k_digits => k_is)
      (case a__law_mix => k_is)
      (case l__law_mix => k_is)
      (case c__law_mix => k_is)
      (case k__law_mix => k_is)
      (case a_check_numbers => k_is)
      (case l_check_numbers => k_is)
      (case c_check_numbers => k_is)
      (case k_check_numbers => k_is)
      (case a_power_of => k_is)
      (case l_power_of => k_is)
      (case c_power_of => k_is)
      (case k_power_of => k_is)
      (case a_comes_again => k_is)
      (case l_comes_again => k_is)
      (case c_comes_again => k_is)
      (case k_comes_again => k_is)
      (case a_check_some => k_is)
      (case l_check_some => k_is)
      (case c_check_some => k_is)
      (case k_check_some => k_is)
      (case a_least_unit => k_is)
      (case l_least_unit => k_is)
      (case c_least_unit => k_is)
      (case k_least_unit => k_is)
      (case a_fraction => k_is)
      (case l_fraction => k_is)
      (case c_fraction => k_is)
      (case k_fraction => k_is)
      (case a_minus => k_is)
      (case l_minus => k_is)
      (case c_minus => k_is)
      (case k_minus => k_is)
      (case a_greedy => k_is)
      (case l_greedy => k_is)
      (case c_greedy => k_is)
      (case k_greedy => k_is)
      (case a_plus => k_is)
      (case l_plus => k_is)
      (case c_plus => k_is)
      (case k_plus => k_is)
      (case a_is_sum => k_is)
      (case l_is_sum => k_is)
      (case c_is_sum => k_is)
      (case k_is_sum => k_is)
      (case a_zeros_of => k_is)
      (case l_zeros_of => k_is)
      (case c_zeros_of => k_is)
      (case k_zeros_of => k_is)
      (case a_zeros => k_is)
      (case l_zeros => k_is)
      (case c_zeros => k_is)
      (case k_zeros => k_is)
      (case a_digits_of => k_is)
      (case l_digits_of => k_is)
      (case c_digits_of => k_is)
      (case k_digits_of => k_is)
      (case a_write_of => k_is)
      (case l_write_of => k_is)
      (case c_write_of => k_is)
      (case k_write_of => k_is)
      (case a_power_rest => k_is)
      (case l_power_rest => k_is)
      (case c_power_rest => k_is)
      (case k_power_rest => k_is)
      (case a_last_digits => k_is)
      (case l_last_digits => k_is)
      (case c_last_digits => k_is)
      (case k_last_digits => k_is)
      (case a_read_of => k_is)
      (case l_read_of => k_is)
      (case c_read_of => k_is)
      (case k_read_of => k_is)
      (case a_part_of => k_is)
      (case l_part_of => k_is)
      (case c_part_of => k_is)
      (case k_part_of => k_is)
      (case a_law => k_is)
      (case l_law => k_is)
      (case c_law => k_is)
      (case k_law => k_is)
      (case z_abs => k_is)
      (case z_all => k_is)
      (case z_enumerate => k_is)
      (case z_int => k_is)
      (case z_len => k_is)
      (case z_max => k_is)
      (case z_min => k_is)
      (case z_range => k_is)
      (case z_tuple => k_is)
      (case z_zip => k_is)
      (case q_DIGITS => k_is)
      (case q_GREATEST_BASE => k_is)
      (case q_LEAST_BASE => k_is)
      (case q_MOST_AGAIN => k_is)
      (case q_MOST_BASE => k_is)
      (case q_MOST_DIGITS => k_is)
      (case q_MOST_LISTED => k_is)
      (case q_MOST_NUMBER => k_is)
      (case q_MOST_SECOND => k_is)
      (case q_gcd => k_is)
    subst e
    exact ⟨T.d_law, hb, fun base _ _ => LW.ok_law T⟩
