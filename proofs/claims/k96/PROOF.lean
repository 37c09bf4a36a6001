import PyProof.Rows.All
import Wide.All
import OpenK.AllK
import Wide.FinOn
import HandS.ForMost
import HandS.Wide
import HandS.Star
import HandS.Style
import HandS.SortInts
import HandS.Deep
import HandS.Gcd
import PyProof.ReprRoads
import HandS.Ends
import HandS.Replace
import HandS.Codes
import KE.GoesMore
import HandS.TryOnly
import HandS.TupSets
import PyProof.Rows.StrRev
import HandS.StrMore
import HandS.Flow
import HandS.SetFor
import HandS.Strs
import KE.SortData
import KE.DataMinMax
import PySem.Challenge.RW_reckonedbyhand_k96_whole_signed_digits_a
set_option Elab.async false
set_option linter.all false
set_option maxRecDepth 100000
/-! PL1: the pure layer: plain data over the heap, ownership modes, judgements. -/
namespace PL
open PySem PySem.Spec L2

abbrev Ad := Addr → Prop
def un (S T : Ad) : Ad := fun a => S a ∨ T a
def wi (S : Ad) (p : Addr) : Ad := fun a => S a ∨ a = p
def no : Ad := fun _ => False

/-! ### data over the heap; lists, tuples, dicts that are tracked stand outside T -/
def KLs (K : PySem.W.Frag) (a : Addr) (xs : List V) : Prop :=
  ∃ (o : Obj) (its : Array Value) (n : Nat), K.lookup a = some o ∧ o.cls = .type "list" ∧ o.dict = none ∧ o.data = .seq its n ∧ its.size ≤ sizeLine ∧ Vals xs its.toList
def KTp (K : PySem.W.Frag) (a : Addr) (xs : List V) : Prop :=
  ∃ (o : Obj) (its : Array Value) (n : Nat), K.lookup a = some o ∧ o.cls = .type "tuple" ∧ o.data = .seq its n ∧ its.size ≤ sizeLine ∧ Vals xs its.toList
def LsA (K : PySem.W.Frag) (H : Hp) (T : Ad) (a : Addr) (xs : List V) : Prop := (Rd H a (.lst xs) ∧ ¬ T a) ∨ KLs K a xs
def TpA (K : PySem.W.Frag) (H : Hp) (T : Ad) (a : Addr) (xs : List V) : Prop := (Rd H a (.tup xs) ∧ ¬ T a) ∨ KTp K a xs
theorem LsA.sq {K : PySem.W.Frag} {H : Hp} {T : Ad} {a : Addr} {xs : List V} (h : LsA K H T a xs) : SqL K H a xs := h.imp (·.1) id
theorem TpA.sq {K : PySem.W.Frag} {H : Hp} {T : Ad} {a : Addr} {xs : List V} (h : TpA K H T a xs) : SqT K H a xs := h.imp (·.1) id

def keyD : PyData → Option Key
  | .int i => some (.inl i)
  | .str x => some (.inr x)
  | _ => none

mutual
def Rp (K : PySem.W.Frag) (H : Hp) (T : Ad) : PyData → V → Prop
  | .none, v => v = .non
  | .bool b, v => v = .bl b
  | .int i, v => v = .int i
  | .str x, v => v = .str x
  | .list ds, v => ∃ a xs, v = .ref a ∧ LsA K H T a xs ∧ RpA K H T ds xs
  | .tuple ds, v => ∃ a xs, v = .ref a ∧ TpA K H T a xs ∧ RpA K H T ds xs
  | .dict kvs, v => ∃ a es, v = .ref a ∧ (Rd H a (.dK es) ∧ ¬ T a) ∧ RpK K H T kvs es
def RpA (K : PySem.W.Frag) (H : Hp) (T : Ad) : List PyData → List V → Prop
  | [], xs => xs = []
  | d :: ds, xs => ∃ v vs, xs = v :: vs ∧ Rp K H T d v ∧ RpA K H T ds vs
def RpK (K : PySem.W.Frag) (H : Hp) (T : Ad) : List (PyData × PyData) → List (Key × V) → Prop
  | [], es => es = []
  | (k, d) :: ds, es => ∃ i v vs, es = (i, v) :: vs ∧ keyD k = some i ∧ Rp K H T d v ∧ RpK K H T ds vs
end

/-- from (H, T) to (H', T'): what is tracked outside T stands, and outside T' -/
def Mv (T : Ad) (H : Hp) (T' : Ad) (H' : Hp) : Prop := ∀ a o, H a = some o → ¬ T a → H' a = some o ∧ ¬ T' a
theorem Mv.refl {T : Ad} {H : Hp} : Mv T H T H := fun _ _ h n => ⟨h, n⟩
theorem Mv.trans {T T' T'' : Ad} {H H' H'' : Hp} (x : Mv T H T' H') (y : Mv T' H' T'' H'') : Mv T H T'' H'' := fun a o h n =>
  let ⟨h1, n1⟩ := x a o h n
  y a o h1 n1
theorem Mv.same {T : Ad} {H H' : Hp} (s : Same H H') : Mv T H T H' := fun a o h n => ⟨s a o h, n⟩
theorem Mv.less {T T' : Ad} {H : Hp} (s : ∀ a, T' a → T a) : Mv T H T' H := fun a o h n => ⟨h, fun z => n (s a z)⟩
theorem Mv.un {T T' U : Ad} {H H' : Hp} (x : Mv T H T' H') : Mv (un T U) H (PL.un T' U) H' := fun a o h n =>
  let ⟨h1, n1⟩ := x a o h fun z => n (.inl z)
  ⟨h1, fun z => z.elim n1 fun z => n (.inr z)⟩

section
variable {K : PySem.W.Frag} {H H' : Hp} {T T' : Ad} {a : Addr} {xs : List V} {u : HO}
theorem rd_mv (m : Mv T H T' H') (h : Rd H a u ∧ ¬ T a) : Rd H' a u ∧ ¬ T' a := by
  obtain ⟨h | ⟨o, h⟩, n⟩ := h
  · obtain ⟨h1, n1⟩ := m _ _ h n
    exact ⟨.inl h1, n1⟩
  · obtain ⟨h1, n1⟩ := m _ _ h n
    exact ⟨.inr ⟨o, h1⟩, n1⟩
theorem LsA.mv (m : Mv T H T' H') (h : LsA K H T a xs) : LsA K H' T' a xs := h.imp (rd_mv m) id
theorem TpA.mv (m : Mv T H T' H') (h : TpA K H T a xs) : TpA K H' T' a xs := h.imp (rd_mv m) id
mutual
theorem Rp.mv (m : Mv T H T' H') : ∀ (d : PyData) (v : V), Rp K H T d v → Rp K H' T' d v
  | .none, v, h => h
  | .bool _, v, h => h
  | .int _, v, h => h
  | .str _, v, h => h
  | .list ds, v, h => by
    obtain ⟨a, xs, e, h1, h2⟩ := h
    exact ⟨a, xs, e, h1.mv m, RpA.mv m ds xs h2⟩
  | .tuple ds, v, h => by
    obtain ⟨a, xs, e, h1, h2⟩ := h
    exact ⟨a, xs, e, h1.mv m, RpA.mv m ds xs h2⟩
  | .dict kvs, v, h => by
    obtain ⟨a, xs, e, h1, h2⟩ := h
    exact ⟨a, xs, e, rd_mv m h1, RpK.mv m kvs xs h2⟩
theorem RpA.mv (m : Mv T H T' H') : ∀ (ds : List PyData) (xs : List V), RpA K H T ds xs → RpA K H' T' ds xs
  | [], xs, h => h
  | d :: ds, xs, h => by
    obtain ⟨v, vs, e, h1, h2⟩ := h
    exact ⟨v, vs, e, Rp.mv m d v h1, RpA.mv m ds vs h2⟩
theorem RpK.mv (m : Mv T H T' H') : ∀ (ds : List (PyData × PyData)) (xs : List (Key × V)), RpK K H T ds xs → RpK K H' T' ds xs
  | [], xs, h => h
  | (k, d) :: ds, xs, h => by
    obtain ⟨i, v, vs, e, hk, h1, h2⟩ := h
    exact ⟨i, v, vs, e, hk, Rp.mv m d v h1, RpK.mv m ds vs h2⟩
end
theorem RpA.length : ∀ {ds : List PyData} {xs : List V}, RpA K H T ds xs → xs.length = ds.length
  | [], xs, h => by have e : xs = [] := h; rw [e]; rfl
  | d :: ds, xs, h => by
    obtain ⟨v, vs, rfl, h1, h2⟩ := h
    rw [List.length_cons, List.length_cons, RpA.length h2]
theorem RpA.append : ∀ {ds es : List PyData} {xs ys : List V}, RpA K H T ds xs → RpA K H T es ys → RpA K H T (ds ++ es) (xs ++ ys)
  | [], es, xs, ys, h, g => by have e : xs = [] := h; subst e; exact g
  | d :: ds, es, xs, ys, h, g => by
    obtain ⟨v, vs, rfl, h1, h2⟩ := h
    exact ⟨v, vs ++ ys, rfl, h1, RpA.append h2 g⟩
theorem RpA.one {d : PyData} {v : V} (h : Rp K H T d v) : RpA K H T [d] [v] := ⟨v, [], rfl, h, rfl⟩
theorem RpA.get : ∀ {ds : List PyData} {xs : List V} {i : Nat} {d : PyData}, RpA K H T ds xs → ds[i]? = some d → ∃ v, xs[i]? = some v ∧ Rp K H T d v
  | [], xs, i, d, h, e => by simp at e
  | d' :: ds, xs, 0, d, h, e => by
    obtain ⟨v, vs, rfl, h1, h2⟩ := h
    have e : d' = d := Option.some.inj e
    subst e
    exact ⟨v, rfl, h1⟩
  | d' :: ds, xs, i + 1, d, h, e => by
    obtain ⟨v, vs, rfl, h1, h2⟩ := h
    exact RpA.get (i := i) h2 e
theorem RpA.take : ∀ {ds : List PyData} {xs : List V} (n : Nat), RpA K H T ds xs → RpA K H T (ds.take n) (xs.take n)
  | [], xs, n, h => by have e : xs = [] := h; subst e; simp; rfl
  | d :: ds, xs, 0, h => by simp; rfl
  | d :: ds, xs, n + 1, h => by
    obtain ⟨v, vs, rfl, h1, h2⟩ := h
    exact ⟨v, vs.take n, rfl, h1, RpA.take n h2⟩
theorem RpA.drop : ∀ {ds : List PyData} {xs : List V} (n : Nat), RpA K H T ds xs → RpA K H T (ds.drop n) (xs.drop n)
  | [], xs, n, h => by have e : xs = [] := h; subst e; simp; rfl
  | d :: ds, xs, 0, h => by simpa using h
  | d :: ds, xs, n + 1, h => by
    obtain ⟨v, vs, rfl, h1, h2⟩ := h
    simpa using RpA.drop n h2
theorem RpA.rev : ∀ {ds : List PyData} {xs : List V}, RpA K H T ds xs → RpA K H T ds.reverse xs.reverse
  | [], xs, h => by have e : xs = [] := h; subst e; simp; rfl
  | d :: ds, xs, h => by
    obtain ⟨v, vs, rfl, h1, h2⟩ := h
    rw [List.reverse_cons, List.reverse_cons]
    exact (RpA.rev h2).append (.one h1)
theorem RpA.set : ∀ {ds : List PyData} {xs : List V} (i : Nat) {d : PyData} {v : V}, RpA K H T ds xs → Rp K H T d v → RpA K H T (ds.set i d) (xs.set i v)
  | [], xs, i, d, v, h, g => by have e : xs = [] := h; subst e; simp; rfl
  | d' :: ds, xs, 0, d, v, h, g => by
    obtain ⟨v', vs, rfl, h1, h2⟩ := h
    exact ⟨v, vs, rfl, g, h2⟩
  | d' :: ds, xs, i + 1, d, v, h, g => by
    obtain ⟨v', vs, rfl, h1, h2⟩ := h
    exact ⟨v', vs.set i v, rfl, h1, RpA.set i h2 g⟩
mutual
theorem Rp.dp : ∀ (d : PyData) (v : V), Rp K H T d v → (∀ kvs, d ≠ .dict kvs) → PyData.hasDict d = false → Dp K H v d
  | .none, v, h, _, _ => by have e : v = .non := h; rw [e]; exact .non
  | .bool b, v, h, _, _ => by have e : v = .bl b := h; rw [e]; exact .bl b
  | .int i, v, h, _, _ => by have e : v = .int i := h; rw [e]; exact .int i
  | .str i, v, h, _, _ => by have e : v = .str i := h; rw [e]; exact .str i
  | .list ds, v, h, _, n => by
    obtain ⟨a, xs, rfl, h1, h2⟩ := h
    exact .lst h1.sq (RpA.dp ds xs h2 (by simpa [PyData.hasDict] using n))
  | .tuple ds, v, h, _, n => by
    obtain ⟨a, xs, rfl, h1, h2⟩ := h
    exact .tup h1.sq (RpA.dp ds xs h2 (by simpa [PyData.hasDict] using n))
  | .dict kvs, v, h, n, _ => absurd rfl (n kvs)
theorem RpA.dp : ∀ (ds : List PyData) (xs : List V), RpA K H T ds xs → PyData.hasDictAll ds = false → DpAll K H xs ds
  | [], xs, h, _ => by have e : xs = [] := h; subst e; exact .nil
  | d :: ds, xs, h, n => by
    obtain ⟨v, vs, rfl, h1, h2⟩ := h
    have n' : d.hasDict = false ∧ PyData.hasDictAll ds = false := by simpa [PyData.hasDictAll] using n
    refine .cons (Rp.dp d v h1 ?_ n'.1) (RpA.dp ds vs h2 n'.2)
    rintro kvs rfl
    simp [PyData.hasDict] at n'
end
end

/-! ### the kinds of a value: a shared, b borrowed (its top may be owned), f fresh -/
inductive Kd | a | b | f
def Rb (K : PySem.W.Frag) (H : Hp) (T : Ad) (d : PyData) (v : V) : Prop :=
  Rp K H T d v ∨ (∃ ds a xs, d = .list ds ∧ v = .ref a ∧ Rd H a (.lst xs) ∧ RpA K H T ds xs) ∨ ∃ kvs a es, d = .dict kvs ∧ v = .ref a ∧ Rd H a (.dK es) ∧ RpK K H T kvs es
def Fr (K : PySem.W.Frag) (H H' : Hp) (T : Ad) (d : PyData) (v : V) : Prop :=
  ∃ p, v = .ref p ∧ H p = none ∧ ((∃ ds xs, d = .list ds ∧ H' p = some (.lst xs) ∧ RpA K H' (wi T p) ds xs) ∨ ∃ kvs es, d = .dict kvs ∧ H' p = some (.dK es) ∧ RpK K H' (wi T p) kvs es)
def RK : Kd → PySem.W.Frag → Hp → Hp → Ad → PyData → V → Prop
  | .a, K, _, H', T, d, v => Rp K H' T d v
  | .b, K, _, H', T, d, v => Rb K H' T d v
  | .f, K, H, H', T, d, v => Fr K H H' T d v
section
variable {K : PySem.W.Frag} {H H0 H' H'' : Hp} {T T' : Ad} {d : PyData} {v : V}
theorem Rb.mv (m : Mv T H T H') (h : Rb K H T d v) (s : Same H H') : Rb K H' T d v := by
  rcases h with h | ⟨ds, a, xs, rfl, rfl, h1, h2⟩ | ⟨ds, a, xs, rfl, rfl, h1, h2⟩
  · exact .inl (h.mv m)
  · refine .inr (.inl ⟨ds, a, xs, rfl, rfl, ?_, h2.mv m⟩)
    rcases h1 with h1 | ⟨o, h1⟩
    · exact .inl (s _ _ h1)
    · exact .inr ⟨o, s _ _ h1⟩
  · refine .inr (.inr ⟨ds, a, xs, rfl, rfl, ?_, h2.mv m⟩)
    rcases h1 with h1 | ⟨o, h1⟩
    · exact .inl (s _ _ h1)
    · exact .inr ⟨o, s _ _ h1⟩
theorem Fr.rp (h : Fr K H H' T d v) (hT : ∀ a, T a → H a ≠ none) : Rp K H' T d v := by
  obtain ⟨p, rfl, hp, ⟨ds, xs, rfl, h1, h2⟩ | ⟨ds, xs, rfl, h1, h2⟩⟩ := h
  · exact ⟨p, xs, rfl, .inl ⟨.inl h1, fun z => hT p z hp⟩, h2.mv (.less fun a z => .inl z)⟩
  · exact ⟨p, xs, rfl, ⟨.inl h1, fun z => hT p z hp⟩, h2.mv (.less fun a z => .inl z)⟩
theorem Fr.back (h : Fr K H H' T d v) (s : Same H0 H) : Fr K H0 H' T d v := by
  obtain ⟨p, rfl, hp, r⟩ := h
  exact ⟨p, rfl, s.free hp, r⟩
theorem RK.back {k : Kd} (h : RK k K H H' T d v) (s : Same H0 H) : RK k K H0 H' T d v := by
  cases k with
  | a => exact h
  | b => exact h
  | f => exact Fr.back h s
theorem RK.toB {k : Kd} (h : RK k K H H' T d v) (hT : ∀ a, T a → H a ≠ none) : Rb K H' T d v := by
  cases k with
  | a => exact .inl h
  | b => exact h
  | f => exact .inl (Fr.rp h hT)
end

/-! ### slots -/
inductive Mo | a | b | o
abbrev Sl := List (Option (Mo × PyData))
def Ow (K : PySem.W.Frag) (H : Hp) (T : Ad) (d : PyData) (a : Addr) : Prop :=
  (∃ ds xs, d = .list ds ∧ H a = some (.lst xs) ∧ RpA K H T ds xs) ∨ ∃ kvs es, d = .dict kvs ∧ H a = some (.dK es) ∧ RpK K H T kvs es
/-- borrowed: what a caller owns may be its top, what this def owns not -/
def Rbs (K : PySem.W.Frag) (H : Hp) (S T : Ad) (d : PyData) (v : V) : Prop :=
  Rp K H T d v ∨ (∃ ds a xs, d = .list ds ∧ v = .ref a ∧ (Rd H a (.lst xs) ∧ ¬ S a) ∧ RpA K H T ds xs) ∨ ∃ kvs a es, d = .dict kvs ∧ v = .ref a ∧ (Rd H a (.dK es) ∧ ¬ S a) ∧ RpK K H T kvs es
theorem Rbs.rb {K : PySem.W.Frag} {H : Hp} {S T : Ad} {d : PyData} {v : V} (h : Rbs K H S T d v) : Rb K H T d v :=
  h.imp id (Or.imp (fun ⟨ds, a, xs, e1, e2, e3, e4⟩ => ⟨ds, a, xs, e1, e2, e3.1, e4⟩) fun ⟨ds, a, xs, e1, e2, e3, e4⟩ => ⟨ds, a, xs, e1, e2, e3.1, e4⟩)
theorem Rbs.mv {K : PySem.W.Frag} {H H' : Hp} {S S' S0 : Ad} {d : PyData} {v : V} (m : Mv S H S' H') (h : Rbs K H S (un S S0) d v) : Rbs K H' S' (un S' S0) d v := by
  rcases h with h | ⟨ds, a, xs, rfl, rfl, h1, h2⟩ | ⟨ds, a, xs, rfl, rfl, h1, h2⟩
  · exact .inl (Rp.mv m.un _ _ h)
  · exact .inr (.inl ⟨ds, a, xs, rfl, rfl, rd_mv m h1, h2.mv m.un⟩)
  · exact .inr (.inr ⟨ds, a, xs, rfl, rfl, rd_mv m h1, h2.mv m.un⟩)
def SlV (K : PySem.W.Frag) (S0 S : Ad) (H : Hp) : Mo → PyData → V → Prop
  | .a, d, v => Rp K H (un S S0) d v
  | .b, d, v => Rbs K H S (un S S0) d v
  | .o, d, v => ∃ a, v = .ref a ∧ S a ∧ Ow K H (un S S0) d a
/-- the variables as told by sl; S0: what the callers may change, S: the lists that this def owns -/
structure EnvS (K : PySem.W.Frag) (S0 S : Ad) (H : Hp) (sl : Sl) (σ : St) : Prop where
  len : sl.length = σ.length
  dS : ∀ a, S a → H a ≠ none
  d0 : ∀ a, S0 a → H a ≠ none
  ap : ∀ a, S a → ¬ S0 a
  at_ : ∀ (i : Nat) (m : Mo) (d : PyData), sl[i]? = some (some (m, d)) → ∃ v, σ[i]? = some (some v) ∧ SlV K S0 S H m d v
  one : ∀ (i j : Nat) (d e : PyData) (v : V), i ≠ j → sl[i]? = some (some (.o, d)) → sl[j]? = some (some (.o, e)) → σ[i]? = some (some v) → σ[j]? ≠ some (some v)
section
variable {K : PySem.W.Frag} {H H0 H' H'' : Hp} {S0 S S' : Ad} {d : PyData} {v : V} {sl : Sl} {σ : St}
theorem EnvS.dT (E : EnvS K S0 S H sl σ) : ∀ a, un S S0 a → H a ≠ none := fun a h => h.elim (E.dS a) (E.d0 a)
theorem Ow.mv {T : Ad} {a : Addr} (s : Same H H') (h : Ow K H T d a) : Ow K H' T d a := by
  rcases h with ⟨ds, xs, rfl, h1, h2⟩ | ⟨ds, xs, rfl, h1, h2⟩
  · exact .inl ⟨ds, xs, rfl, s _ _ h1, h2.mv (.same s)⟩
  · exact .inr ⟨ds, xs, rfl, s _ _ h1, h2.mv (.same s)⟩
theorem SlV.same {m : Mo} (s : Same H H') (h : SlV K S0 S H m d v) : SlV K S0 S H' m d v := by
  cases m with
  | a => exact Rp.mv (.same s) d v h
  | b => exact Rbs.mv (.same s) h
  | o =>
    obtain ⟨a, e, h1, h2⟩ := h
    exact ⟨a, e, h1, h2.mv s⟩
theorem nn_same (s : Same H H') {a : Addr} (h : H a ≠ none) : H' a ≠ none := by
  cases e : H a with
  | none => exact absurd e h
  | some o => rw [s a o e]; simp
theorem EnvS.same (E : EnvS K S0 S H sl σ) (s : Same H H') : EnvS K S0 S H' sl σ where
  len := E.len
  dS := fun a h => nn_same s (E.dS a h)
  d0 := fun a h => nn_same s (E.d0 a h)
  ap := E.ap
  at_ := fun i m d h => by
    obtain ⟨v, h1, h2⟩ := E.at_ i m d h
    exact ⟨v, h1, h2.same s⟩
  one := E.one
end

/-! ### typed values -/
class Enc (τ : Type) where
  enc : τ → PyData
open Enc (enc)
instance : Enc Int := ⟨.int⟩
instance : Enc Bool := ⟨.bool⟩
instance : Enc Str := ⟨.str⟩
instance : Enc Unit := ⟨fun _ => .none⟩
instance {τ : Type} [Enc τ] : Enc (List τ) := ⟨fun xs => .list (xs.map enc)⟩
instance {τ : Type} [Enc τ] : Enc (Option τ) := ⟨fun x => match x with | none => .none | some t => enc t⟩
structure T2 (α β : Type) where
  mk ::
  a : α
  b : β
  deriving DecidableEq
structure T3 (α β γ : Type) where
  mk ::
  a : α
  b : β
  c : γ
  deriving DecidableEq
structure T4 (α β γ δ : Type) where
  mk ::
  a : α
  b : β
  c : γ
  d : δ
  deriving DecidableEq
instance {α β : Type} [Enc α] [Enc β] : Enc (T2 α β) := ⟨fun t => .tuple [enc t.a, enc t.b]⟩
instance {α β γ : Type} [Enc α] [Enc β] [Enc γ] : Enc (T3 α β γ) := ⟨fun t => .tuple [enc t.a, enc t.b, enc t.c]⟩
instance {α β γ δ : Type} [Enc α] [Enc β] [Enc γ] [Enc δ] : Enc (T4 α β γ δ) := ⟨fun t => .tuple [enc t.a, enc t.b, enc t.c, enc t.d]⟩

/-! ### the judgements -/
variable {Γ Γ' ρ τ α β : Type}
/-- an expression's reading -/
def tD [Enc τ] (K : PySem.W.Frag) (sl : Γ → Sl) (k : Kd) (f : Γ → Option τ) : TE := fun σ H Q =>
  ∃ (g : Γ) (S0 S : Ad) (t : τ), EnvS K S0 S H (sl g) σ ∧ f g = some t ∧ ∀ v H', Same H H' → RK k K H H' (un S S0) (enc t) v → Q v H'
def PV [Enc τ] (X : Cx) (sl : Γ → Sl) (k : Kd) (e : Expr) (f : Γ → Option τ) : Prop := PE X e (tD X.K sl k f)
/-- a test's -/
def tB (K : PySem.W.Frag) (sl : Γ → Sl) (f : Γ → Option Bool) : TT := fun σ H Q =>
  ∃ (g : Γ) (S0 S : Ad) (t : Bool), EnvS K S0 S H (sl g) σ ∧ f g = some t ∧ ∀ H', Same H H' → Q t H'
def PB (X : Cx) (sl : Γ → Sl) (e : Expr) (f : Γ → Option Bool) : Prop := PT X e (tB X.K sl f)
def PBw (X : Cx) (sl : Γ → Sl) (e : Expr) (f : Γ → Option Bool) : Prop := PW X e (tB X.K sl f)

theorem PE.imp {X : Cx} {e : Expr} {t t' : TE} (h : PE X e t) (i : ∀ σ H Q, t' σ H Q → t σ H Q) : PE X e t' := ⟨fun pins s σ H Q I q => h.run pins s σ H Q I (i σ H Q q)⟩
theorem PT.imp {X : Cx} {e : Expr} {t t' : TT} (h : PT X e t) (i : ∀ σ H Q, t' σ H Q → t σ H Q) : PT X e t' := ⟨fun pins s σ H Q I q => h.run pins s σ H Q I (i σ H Q q)⟩
theorem PW.imp {X : Cx} {e : Expr} {t t' : TT} (h : PW X e t) (i : ∀ σ H Q, t' σ H Q → t σ H Q) : PW X e t' := ⟨fun wh pins s σ H Q I q => h.run wh pins s σ H Q I (i σ H Q q)⟩
theorem PS.imp {X : Cx} {e : Stmt} {t t' : TS} (h : PS X e t) (i : ∀ D σ H, t' D σ H → t D σ H) : PS X e t' := ⟨fun pins s σ H Q I q => h.run pins s σ H Q I (i Q σ H q)⟩
theorem PSs.imp {X : Cx} {e : List Stmt} {t t' : TS} (h : PSs X e t) (i : ∀ D σ H, t' D σ H → t D σ H) : PSs X e t' := ⟨fun pins s σ H Q I q => h.run pins s σ H Q I (i Q σ H q)⟩
theorem PI.imp {X : Cx} {tg e : Expr} {t t' : TI} (h : PI X tg e t) (i : ∀ σ H Q, t' σ H Q → t σ H Q) : PI X tg e t' := ⟨fun pins s σ H Q I q => h.run pins s σ H Q I (i σ H Q q)⟩
theorem PA.imp {X : Cx} {e : List Expr} {t t' : TA} (h : PA X e t) (i : ∀ σ H Q, t' σ H Q → t σ H Q) : PA X e t' := ⟨fun pos pins s σ H Q I q => h.run pos pins s σ H Q I (i σ H Q q)⟩
theorem PO.imp {X : Cx} {e : Option Expr} {t t' : TO} (h : PO X e t) (i : ∀ σ H Q, t' σ H Q → t σ H Q) : PO X e t' := ⟨fun pins s σ H Q I q => h.run pins s σ H Q I (i σ H Q q)⟩
theorem PTs.imp {X : Cx} {e : List Expr} {t t' : TT} (h : PTs X e t) (i : ∀ σ H Q, t' σ H Q → t σ H Q) : PTs X e t' := ⟨fun pins s σ H Q I q => h.run pins s σ H Q I (i σ H Q q)⟩

end PL

/-! PL2: expressions. -/
namespace PL
open PySem PySem.Spec L2
open Enc (enc)

/-- texts by their signs -/
structure Tx where
  mk ::
  cs : List Nat
  deriving DecidableEq
instance : Enc Tx := ⟨fun t => .str ⟨t.cs.toArray⟩⟩

section
variable {K : PySem.W.Frag} {H : Hp} {T : Ad} {v : V}
theorem rb_int {i : Int} (h : Rb K H T (.int i) v) : v = .int i := by
  rcases h with h | ⟨_, _, _, e, _⟩ | ⟨_, _, _, e, _⟩
  · exact h
  · cases e
  · cases e
theorem rb_bool {i : Bool} (h : Rb K H T (.bool i) v) : v = .bl i := by
  rcases h with h | ⟨_, _, _, e, _⟩ | ⟨_, _, _, e, _⟩
  · exact h
  · cases e
  · cases e
theorem rb_str {i : Str} (h : Rb K H T (.str i) v) : v = .str i := by
  rcases h with h | ⟨_, _, _, e, _⟩ | ⟨_, _, _, e, _⟩
  · exact h
  · cases e
  · cases e
theorem rb_none (h : Rb K H T .none v) : v = .non := by
  rcases h with h | ⟨_, _, _, e, _⟩ | ⟨_, _, _, e, _⟩
  · exact h
  · cases e
  · cases e
theorem rb_tup {ds : List PyData} (h : Rb K H T (.tuple ds) v) : ∃ a xs, v = .ref a ∧ SqT K H a xs ∧ RpA K H T ds xs := by
  rcases h with ⟨a, xs, e, h1, h2⟩ | ⟨_, _, _, e, _⟩ | ⟨_, _, _, e, _⟩
  · exact ⟨a, xs, e, h1.sq, h2⟩
  · cases e
  · cases e
theorem rb_list {ds : List PyData} (h : Rb K H T (.list ds) v) : ∃ a xs, v = .ref a ∧ SqL K H a xs ∧ RpA K H T ds xs := by
  rcases h with ⟨a, xs, e, h1, h2⟩ | ⟨_, a, xs, e, rfl, h1, h2⟩ | ⟨_, _, _, e, _⟩
  · exact ⟨a, xs, e, h1.sq, h2⟩
  · cases e
    exact ⟨a, xs, rfl, .inl h1, h2⟩
  · cases e
theorem rpa_map {τ : Type} (g : τ → V) {e : τ → PyData} (h : ∀ t w, Rp K H T (e t) w → w = g t) : ∀ {xs : List τ} {vs : List V}, RpA K H T (xs.map e) vs → vs = xs.map g
  | [], vs, q => q
  | x :: xs, vs, q => by
    obtain ⟨v, ws, rfl, h1, h2⟩ := q
    rw [List.map_cons, h x v h1, rpa_map g h h2]
theorem rpa_int {xs : List Int} {vs : List V} (h : RpA K H T (xs.map enc) vs) : vs = xs.map V.int := rpa_map (e := fun i : Int => enc i) V.int (fun t w q => show w = V.int t from q) h
theorem rpa_bool {xs : List Bool} {vs : List V} (h : RpA K H T (xs.map enc) vs) : vs = xs.map V.bl := rpa_map (e := fun i : Bool => enc i) V.bl (fun t w q => show w = V.bl t from q) h
theorem rpa_tx {xs : List Tx} {vs : List V} (h : RpA K H T (xs.map enc) vs) : vs = (xs.map fun t => (⟨t.cs.toArray⟩ : Str)).map V.str := by
  rw [List.map_map]
  exact rpa_map (e := fun i : Tx => enc i) (fun t => V.str ⟨t.cs.toArray⟩) (fun t w q => show w = V.str ⟨t.cs.toArray⟩ from q) h
end

variable {Γ Γ' ρ τ α β : Type} {X : Cx} {sl : Γ → Sl} {e a b c : Expr} {k k1 k2 k3 : Kd} {pos : Pos}

theorem bind2 {f : Option α} {g : Option β} {h : α → β → Option τ} {t : τ} (e : (f.bind fun x => g.bind fun y => h x y) = some t) : ∃ x y, f = some x ∧ g = some y ∧ h x y = some t := by
  cases f with
  | none => cases e
  | some x =>
    cases g with
    | none => cases e
    | some y => exact ⟨x, y, rfl, rfl, e⟩
theorem bind1 {f : Option α} {h : α → Option τ} {t : τ} (e : (f.bind fun x => h x) = some t) : ∃ x, f = some x ∧ h x = some t := by
  cases f with
  | none => cases e
  | some x => exact ⟨x, rfl, e⟩
/-! ### from kind to kind -/
theorem PV.ab [Enc τ] {f : Γ → Option τ} (h : PV X sl .a e f) : PV X sl .b e f := PE.imp h fun σ H Q ⟨g, S0, S, t, E, hf, q⟩ => ⟨g, S0, S, t, E, hf, fun v H' s r => q v H' s (.inl r)⟩
theorem PV.fa [Enc τ] {f : Γ → Option τ} (h : PV X sl .f e f) : PV X sl .a e f := PE.imp h fun σ H Q ⟨g, S0, S, t, E, hf, q⟩ => ⟨g, S0, S, t, E, hf, fun v H' s r => q v H' s (Fr.rp r E.dT)⟩
theorem PV.fb [Enc τ] {f : Γ → Option τ} (h : PV X sl .f e f) : PV X sl .b e f := h.fa.ab
/-- what is no list and no dict is never owned -/
class NoL (τ : Type) [Enc τ] : Prop where
  nl : ∀ (t : τ), (∀ ds, enc t ≠ .list ds) ∧ ∀ ds, enc t ≠ .dict ds
instance : NoL Int := ⟨fun _ => ⟨nofun, nofun⟩⟩
instance : NoL Bool := ⟨fun _ => ⟨nofun, nofun⟩⟩
instance : NoL Tx := ⟨fun _ => ⟨nofun, nofun⟩⟩
instance : NoL Unit := ⟨fun _ => ⟨nofun, nofun⟩⟩
instance {α β : Type} [Enc α] [Enc β] : NoL (T2 α β) := ⟨fun _ => ⟨nofun, nofun⟩⟩
instance {α β γ : Type} [Enc α] [Enc β] [Enc γ] : NoL (T3 α β γ) := ⟨fun _ => ⟨nofun, nofun⟩⟩
instance {α β γ δ : Type} [Enc α] [Enc β] [Enc γ] [Enc δ] : NoL (T4 α β γ δ) := ⟨fun _ => ⟨nofun, nofun⟩⟩
instance {α : Type} [Enc α] [NoL α] : NoL (Option α) := ⟨fun t => match t with
  | none => ⟨nofun, nofun⟩
  | some t => NoL.nl t⟩
theorem Rb.rp {K : PySem.W.Frag} {H : Hp} {T : Ad} {v : V} [Enc τ] [NoL τ] {t : τ} (h : Rb K H T (enc t) v) : Rp K H T (enc t) v := by
  rcases h with h | ⟨ds, _, _, e, _⟩ | ⟨ds, _, _, e, _⟩
  · exact h
  · exact absurd e ((NoL.nl t).1 ds)
  · exact absurd e ((NoL.nl t).2 ds)
theorem PV.ba [Enc τ] [NoL τ] {f : Γ → Option τ} (h : PV X sl .b e f) : PV X sl .a e f := PE.imp h fun σ H Q ⟨g, S0, S, t, E, hf, q⟩ => ⟨g, S0, S, t, E, hf, fun v H' s r => q v H' s (Rb.rp r)⟩
/-- what is known to be there -/
theorem PV.cast [Enc τ] {f : Γ → Option (Option τ)} (h : PV X sl k e f) : PV X sl k e (fun g => (f g).bind fun t => t) := PE.imp h fun σ H Q ⟨g, S0, S, t, E, hf, q⟩ => by
  obtain ⟨u, h1, hf⟩ := bind1 hf
  have hf : u = some t := hf
  subst hf
  exact ⟨g, S0, S, some t, E, h1, q⟩
theorem PV.opt [Enc τ] {f : Γ → Option τ} (h : PV X sl k e f) : PV X sl k e (fun g => (f g).bind fun t => some (some t)) := PE.imp h fun σ H Q ⟨g, S0, S, t, E, hf, q⟩ => by
  obtain ⟨u, h1, hf⟩ := bind1 hf
  have hf : some u = t := Option.some.inj hf
  subst hf
  exact ⟨g, S0, S, u, E, h1, q⟩
/-- another way to write the plain function -/
theorem PV.eq [Enc τ] {f f' : Γ → Option τ} (h : PV X sl k e f) (h' : f' = f) : PV X sl k e f' := h' ▸ h

/-! ### names, constants -/
theorem pv_var [Enc τ] {i : Nat} {x : Str} (p : Γ → τ) (h : ∀ g, (sl g)[i]? = some (some (.a, enc (p g)))) (hN : X.N[i]? = some x := by rfl)
    (hv : Vis X.env.scope x := by first | exact Or.inl rfl | exact Or.inr (Or.inl rfl) | exact Or.inr (Or.inr rfl)) (hd : (x == ("__debug__" : Str)) = false := by decide) (hcd : (x == ("__classdict__" : Str)) = false := by decide) :
    PV X sl .a (.Name x pos) (fun g => some (p g)) := PE.imp (pe_var (i := i) hN hv hd hcd) fun σ H Q ⟨g, S0, S, t, E, hf, q⟩ => by
  obtain ⟨v, h1, h2⟩ := E.at_ i _ _ (h g)
  cases hf
  exact ⟨v, h1, q v H (Same.refl H) h2⟩
theorem pv_varb [Enc τ] {i : Nat} {x : Str} (p : Γ → τ) (h : ∀ g, (sl g)[i]? = some (some (.b, enc (p g)))) (hN : X.N[i]? = some x := by rfl)
    (hv : Vis X.env.scope x := by first | exact Or.inl rfl | exact Or.inr (Or.inl rfl) | exact Or.inr (Or.inr rfl)) (hd : (x == ("__debug__" : Str)) = false := by decide) (hcd : (x == ("__classdict__" : Str)) = false := by decide) :
    PV X sl .b (.Name x pos) (fun g => some (p g)) := PE.imp (pe_var (i := i) hN hv hd hcd) fun σ H Q ⟨g, S0, S, t, E, hf, q⟩ => by
  obtain ⟨v, h1, h2⟩ := E.at_ i _ _ (h g)
  cases hf
  exact ⟨v, h1, q v H (Same.refl H) h2.rb⟩
theorem pv_varo [Enc τ] {i : Nat} {x : Str} (p : Γ → τ) (h : ∀ g, (sl g)[i]? = some (some (.o, enc (p g)))) (hN : X.N[i]? = some x := by rfl)
    (hv : Vis X.env.scope x := by first | exact Or.inl rfl | exact Or.inr (Or.inl rfl) | exact Or.inr (Or.inr rfl)) (hd : (x == ("__debug__" : Str)) = false := by decide) (hcd : (x == ("__classdict__" : Str)) = false := by decide) :
    PV X sl .b (.Name x pos) (fun g => some (p g)) := PE.imp (pe_var (i := i) hN hv hd hcd) fun σ H Q ⟨g, S0, S, t, E, hf, q⟩ => by
  obtain ⟨v, h1, a, e, h2, h3⟩ := E.at_ i _ _ (h g)
  cases hf
  refine ⟨v, h1, q v H (Same.refl H) ?_⟩
  rcases h3 with ⟨ds, xs, e1, e2, e3⟩ | ⟨ds, xs, e1, e2, e3⟩
  · exact .inr (.inl ⟨ds, a, xs, e1, e, .inl e2, e3⟩)
  · exact .inr (.inr ⟨ds, a, xs, e1, e, .inl e2, e3⟩)
theorem pv_c [Enc τ] {v : V} (t : τ) (he : PE X e (tC v)) (h : ∀ K H T, Rp K H T (enc t) v) : PV X sl .a e (fun _ => some t) := PE.imp he fun σ H Q ⟨g, S0, S, t', E, hf, q⟩ => by
  cases hf
  exact q v H (Same.refl H) (h _ _ _)
theorem pv_int {i : Int} {j} : PV X sl .a (.Constant (.int i) j pos) (fun _ => some i) := pv_c i pe_int fun _ _ _ => rfl
theorem pv_bool {i : Bool} {j} : PV X sl .a (.Constant (.bool i) j pos) (fun _ => some i) := pv_c i pe_bl fun _ _ _ => rfl
theorem pv_none {j} : PV X sl .a (.Constant .none j pos) (fun _ => some ()) := pv_c () pe_non fun _ _ _ => rfl
/-- None where something may be -/
theorem pv_noneO [Enc τ] {j} : PV X sl .a (.Constant .none j pos) (fun _ => some (none : Option τ)) := pv_c none pe_non fun _ _ _ => rfl
theorem pv_str {x : Str} {j} (l : List Nat) (h : x = ⟨l.toArray⟩ := by decide +kernel) : PV X sl .a (.Constant (.str x) j pos) (fun _ => some (⟨l⟩ : Tx)) := pv_c _ pe_str fun _ _ _ => by rw [h]; rfl
/-- a module's constant -/
theorem pv_gint {x : Str} {i : Int} {u : Value} (hg : Gl X x) (hm : X.mg x = some u) (r : RelV (.int i) u) (hd : (x == ("__debug__" : Str)) = false := by decide) : PV X sl .a (.Name x pos) (fun _ => some i) :=
  pv_c i (pe_glob hg hm r hd) fun _ _ _ => rfl
theorem pv_gstr {x y : Str} {u : Value} (l : List Nat) (hg : Gl X x) (hm : X.mg x = some u) (r : RelV (.str y) u) (h : y = ⟨l.toArray⟩ := by decide +kernel) (hd : (x == ("__debug__" : Str)) = false := by decide) : PV X sl .a (.Name x pos) (fun _ => some (⟨l⟩ : Tx)) :=
  pv_c _ (pe_glob hg hm r hd) fun _ _ _ => by rw [h]; rfl

/-! ### operations by values -/
/-- what a two-place rule asks, in plain words -/
def Ask2 [Enc α] [Enc β] [Enc τ] (K : PySem.W.Frag) (r : R2) (k : Kd) (g : α → β → Option τ) : Prop :=
  ∀ (T : Ad) (H : Hp) (x y : V) (u : α) (w : β) (t : τ) (Q : VK), (∀ a, T a → H a ≠ none) → Rb K H T (enc u) x → Rb K H T (enc w) y → g u w = some t → (∀ v H', Same H H' → RK k K H H' T (enc t) v → Q v H') → r x y H Q
def Ask1 [Enc α] [Enc τ] (K : PySem.W.Frag) (r : V → Hp → VK → Prop) (k : Kd) (g : α → Option τ) : Prop :=
  ∀ (T : Ad) (H : Hp) (x : V) (u : α) (t : τ) (Q : VK), (∀ a, T a → H a ≠ none) → Rb K H T (enc u) x → g u = some t → (∀ v H', Same H H' → RK k K H H' T (enc t) v → Q v H') → r x H Q
theorem pv_2 [Enc α] [Enc β] [Enc τ] {r : R2} {fa : Γ → Option α} {fb : Γ → Option β} {g : α → β → Option τ} (h : ∀ {ta tb : TE}, PE X a ta → PE X b tb → PE X e (tOp r ta tb)) (ask : Ask2 X.K r k g)
    (ha : PV X sl .b a fa) (hb : PV X sl .b b fb) : PV X sl k e (fun s => (fa s).bind fun x => (fb s).bind fun y => g x y) := PE.imp (h ha hb) fun σ H Q ⟨γ, S0, S, t, E, hf, q⟩ => by
  obtain ⟨u, w, h1, h2, h3⟩ := bind2 hf
  refine ⟨γ, S0, S, u, E, h1, fun x H1 s1 r1 => ⟨γ, S0, S, w, E.same s1, h2, fun y H2 s2 r2 => ?_⟩⟩
  have s12 := s1.trans s2
  exact ask (un S S0) H2 x y u w t Q (E.same s12).dT (Rb.mv (.same s2) r1 s2) r2 h3 fun v H' s3 r3 => q v H' (s12.trans s3) (r3.back s12)
theorem pv_1 [Enc α] [Enc τ] {r : V → Hp → VK → Prop} {fa : Γ → Option α} {g : α → Option τ} (h : ∀ {ta : TE}, PE X a ta → PE X e (tUn r ta)) (ask : Ask1 X.K r k g)
    (ha : PV X sl .b a fa) : PV X sl k e (fun s => (fa s).bind fun x => g x) := PE.imp (h ha) fun σ H Q ⟨γ, S0, S, t, E, hf, q⟩ => by
  obtain ⟨u, h1, h3⟩ := bind1 hf
  refine ⟨γ, S0, S, u, E, h1, fun x H1 s1 r1 => ?_⟩
  exact ask (un S S0) H1 x u t Q (E.same s1).dT r1 h3 fun v H' s3 r3 => q v H' (s1.trans s3) (r3.back s1)
/-- a call of a known function with one value, with two -/
theorem pv_c1 [Enc α] [Enc τ] {r : List V → Hp → VK → Prop} {fa : Γ → Option α} {g : α → Option τ} (h : ∀ {ta : TE}, PE X a ta → PE X e (tCB r (tCons ta tNil))) (ask : Ask1 X.K (fun x => r [x]) k g)
    (ha : PV X sl .b a fa) : PV X sl k e (fun s => (fa s).bind fun x => g x) := pv_1 (r := fun x => r [x]) (fun {ta} h' => h h') ask ha
theorem pv_c2 [Enc α] [Enc β] [Enc τ] {r : List V → Hp → VK → Prop} {fa : Γ → Option α} {fb : Γ → Option β} {g : α → β → Option τ} (h : ∀ {ta tb : TE}, PE X a ta → PE X b tb → PE X e (tCB r (tCons ta (tCons tb tNil)))) (ask : Ask2 X.K (fun x y => r [x, y]) k g)
    (ha : PV X sl .b a fa) (hb : PV X sl .b b fb) : PV X sl k e (fun s => (fa s).bind fun x => (fb s).bind fun y => g x y) := pv_2 (r := fun x y => r [x, y]) (fun {ta tb} h1 h2 => h h1 h2) ask ha hb

/-! ### ints -/
def iMod (x y : Int) : Option Int := if 0 < y then some (x % y) else none
def iDiv (x y : Int) : Option Int := if 0 < y ∧ y.natAbs.log2 < 9000 then some (x / y) else none
def iMul (x y : Int) : Option Int := if x.natAbs.log2 + y.natAbs.log2 < 1000000 then some (x * y) else none
def iPow (x y : Int) : Option Int := if 0 ≤ y ∧ y ≤ 1000000 ∧ x.natAbs < 2 ^ 64 then some (x ^ y.toNat) else none
theorem if_some {p : Prop} [Decidable p] {x t : τ} (h : (if p then some x else none) = some t) : p ∧ x = t := by
  by_cases hp : p
  · rw [if_pos hp] at h; exact ⟨hp, Option.some.inj h⟩
  · rw [if_neg hp] at h; cases h
theorem ask_rI {C : Int → Int → Prop} {f : Int → Int → V} [Enc τ] {g : Int → Int → Option τ} {K : PySem.W.Frag} (h : ∀ x y t, g x y = some t → C x y ∧ ∀ K H T, Rp K H T (enc t) (f x y)) : Ask2 K (rI C f) .a g := by
  intro T H x y u w t Q hT r1 r2 e q
  obtain ⟨hc, hr⟩ := h u w t e
  exact ⟨u, w, rb_int r1, rb_int r2, hc, q _ H (Same.refl H) (hr _ _ _)⟩
theorem ask_rI0 {f : Int → Int → V} [Enc τ] {g : Int → Int → Option τ} {K : PySem.W.Frag} (h : ∀ x y t, g x y = some t → ∀ K H T, Rp K H T (enc t) (f x y)) : Ask2 K (rI0 f) .a g := by
  intro T H x y u w t Q hT r1 r2 e q
  exact ⟨u, w, rb_int r1, rb_int r2, q _ H (Same.refl H) (h u w t e _ _ _)⟩
section
variable {fa fb fc : Γ → Option Int}
theorem pv_add (ha : PV X sl .b a fa) (hb : PV X sl .b b fb) : PV X sl .a (.BinOp a .Add b pos) (fun s => (fa s).bind fun x => (fb s).bind fun y => some (x + y)) :=
  pv_2 (pe_op op_add) (ask_rI0 fun x y t e K H T => by cases e; rfl) ha hb
theorem pv_sub (ha : PV X sl .b a fa) (hb : PV X sl .b b fb) : PV X sl .a (.BinOp a .Sub b pos) (fun s => (fa s).bind fun x => (fb s).bind fun y => some (x - y)) :=
  pv_2 (pe_op op_sub) (ask_rI0 fun x y t e K H T => by cases e; rfl) ha hb
theorem pv_mul (ha : PV X sl .b a fa) (hb : PV X sl .b b fb) : PV X sl .a (.BinOp a .Mult b pos) (fun s => (fa s).bind fun x => (fb s).bind fun y => iMul x y) :=
  pv_2 (pe_op op_mulW) (ask_rI fun x y t e => by obtain ⟨h1, rfl⟩ := if_some e; exact ⟨h1, fun _ _ _ => rfl⟩) ha hb
theorem pv_div (ha : PV X sl .b a fa) (hb : PV X sl .b b fb) : PV X sl .a (.BinOp a .FloorDiv b pos) (fun s => (fa s).bind fun x => (fb s).bind fun y => iDiv x y) :=
  pv_2 (pe_op op_fdivW) (ask_rI fun x y t e => by obtain ⟨h1, rfl⟩ := if_some e; exact ⟨h1, fun _ _ _ => rfl⟩) ha hb
theorem pv_mod (ha : PV X sl .b a fa) (hb : PV X sl .b b fb) : PV X sl .a (.BinOp a .Mod b pos) (fun s => (fa s).bind fun x => (fb s).bind fun y => iMod x y) :=
  pv_2 (pe_op op_mod) (ask_rI fun x y t e => by obtain ⟨h1, rfl⟩ := if_some e; exact ⟨h1, fun _ _ _ => rfl⟩) ha hb
theorem pv_pow (ha : PV X sl .b a fa) (hb : PV X sl .b b fb) : PV X sl .a (.BinOp a .Pow b pos) (fun s => (fa s).bind fun x => (fb s).bind fun y => iPow x y) :=
  pv_2 (pe_op op_pow) (ask_rI fun x y t e => by obtain ⟨h1, rfl⟩ := if_some e; exact ⟨h1, fun _ _ _ => rfl⟩) ha hb
theorem pv_neg (ha : PV X sl .b a fa) : PV X sl .a (.UnaryOp .USub a pos) (fun s => (fa s).bind fun x => some (-x)) :=
  pv_1 (pe_un un_neg) (fun T H x u t Q hT r e q => ⟨u, rb_int r, q _ H (Same.refl H) (by cases e; rfl)⟩) ha

/-! ### comparisons of ints -/
/-- a comparison's rule: values to a truth value -/
structure Cmp (X : Cx) (op : CmpOp) (α β : Type) [Enc α] [Enc β] (g : α → β → Option Bool) where
  r : R2
  rule : OpR X (compareOp op) r
  ask : Ask2 X.K r .a g
def c_lt : Cmp X .Lt Int Int (fun x y => some (decide (x < y))) := ⟨_, op_lt, ask_rI0 fun x y t e K H T => by cases e; rfl⟩
def c_le : Cmp X .LtE Int Int (fun x y => some (decide (x ≤ y))) := ⟨_, op_le, ask_rI0 fun x y t e K H T => by cases e; rfl⟩
def c_gt : Cmp X .Gt Int Int (fun x y => some (decide (x > y))) := ⟨_, op_gt, ask_rI0 fun x y t e K H T => by cases e; rfl⟩
def c_ge : Cmp X .GtE Int Int (fun x y => some (decide (x ≥ y))) := ⟨_, op_ge, ask_rI0 fun x y t e K H T => by cases e; rfl⟩
end
end PL

/-! PL3: comparisons, tests, data, lists. -/
namespace PL
open PySem PySem.Spec L2
open Enc (enc)

variable {Γ Γ' ρ τ α β γ' : Type} {X : Cx} {sl : Γ → Sl} {e a b c : Expr} {k k1 k2 k3 : Kd} {pos : Pos}
section
variable [Enc α] [Enc β] [Enc γ'] {op op' : CmpOp} {g : α → β → Option Bool} {g' : β → γ' → Option Bool} {fa : Γ → Option α} {fb : Γ → Option β} {fc : Γ → Option γ'}
theorem pv_cmp (C : Cmp X op α β g) (ha : PV X sl .b a fa) (hb : PV X sl .b b fb) (hm : behindInMarks op b = false := by first | exact nomark _ | with_unfolding_all rfl) : PV X sl .a (.Compare a [op] [b] pos) (fun s => (fa s).bind fun x => (fb s).bind fun y => g x y) :=
  pv_2 (fun h1 h2 => pe_cmpR C.rule h1 h2 hm) C.ask ha hb
/-- a value that is a truth value, as a test's reading -/
theorem tB_of {K : PySem.W.Frag} {f : Γ → Option Bool} {σ : L2.St} {H : Hp} {Q : Bool → Hp → Prop} (h : tB K sl f σ H Q) : tD K sl .a f σ H fun v H' => ∃ k, v = .bl k ∧ Q k H' := by
  obtain ⟨g, S0, S, t, E, hf, q⟩ := h
  exact ⟨g, S0, S, t, E, hf, fun v H' s r => ⟨t, r, q H' s⟩⟩
theorem pb_cmp (C : Cmp X op α β g) (ha : PV X sl .b a fa) (hb : PV X sl .b b fb) (hm : behindInMarks op b = false := by first | exact nomark _ | with_unfolding_all rfl) : PB X sl (.Compare a [op] [b] pos) (fun s => (fa s).bind fun x => (fb s).bind fun y => g x y) :=
  PT.imp (pt_cmpR C.rule ha hb hm) fun σ H Q h => by
    obtain ⟨γ, S0, S, t, E, hf, q⟩ := h
    obtain ⟨u, w, h1, h2, h3⟩ := bind2 hf
    refine ⟨γ, S0, S, u, E, h1, fun x H1 s1 r1 => ⟨γ, S0, S, w, E.same s1, h2, fun y H2 s2 r2 => ?_⟩⟩
    have s12 := s1.trans s2
    exact C.ask (un S S0) H2 x y u w t _ (E.same s12).dT (Rb.mv (.same s2) r1 s2) r2 h3 fun v H' s3 r3 => ⟨t, r3, q H' (s12.trans s3)⟩
theorem pv_val {f : Γ → Option Bool} (h : PV X sl .a e f) (he : ∀ whole, isTrue e X.env whole = (do let v ← whole; standAt e.pos; holding [v] (truthy v)) := by intro _; rfl) : PB X sl e f :=
  PT.imp (pt_val h he) fun σ H Q h => tB_of h
theorem pv_chain (C : Cmp X op α β g) (C' : Cmp X op' β γ' g') (ha : PV X sl .b a fa) (hb : PV X sl .b b fb) (hc : PV X sl .b c fc) (hm : lastMarks [op, op'] [b, c] = false := by with_unfolding_all rfl) :
    PV X sl .a (.Compare a [op, op'] [b, c] pos) (fun s => (fa s).bind fun x => (fb s).bind fun y => (g x y).bind fun t => if t = true then (fc s).bind fun z => g' y z else some false) :=
  PE.imp (pe_chain C.rule C'.rule ha hb hc hm) fun σ H Q h => by
    obtain ⟨γ, S0, S, t, E, hf, q⟩ := h
    obtain ⟨u, w, h1, h2, h3⟩ := bind2 hf
    obtain ⟨t1, h4, h5⟩ := bind1 h3
    refine ⟨γ, S0, S, u, E, h1, fun x H1 s1 r1 => ⟨γ, S0, S, w, E.same s1, h2, fun y H2 s2 r2 => ?_⟩⟩
    have s12 := s1.trans s2
    refine C.ask (un S S0) H2 x y u w t1 _ (E.same s12).dT (Rb.mv (.same s2) r1 s2) r2 h4 fun v H3 s3 r3 => ⟨t1, r3, ?_⟩
    have s13 := s12.trans s3
    cases t1 with
    | false =>
      cases h5
      exact q _ H3 s13 rfl
    | true =>
      obtain ⟨z, h6, h7⟩ := bind1 h5
      refine ⟨γ, S0, S, z, E.same s13, h6, fun z' H4 s4 r4 => ?_⟩
      have s14 := s13.trans s4
      exact C'.ask (un S S0) H4 y z' w z t Q (E.same s14).dT (Rb.mv (.same (s3.trans s4)) r2 (s3.trans s4)) r4 h7 fun v H5 s5 r5 => q v H5 (s14.trans s5) r5
theorem pb_chain (C : Cmp X op α β g) (C' : Cmp X op' β γ' g') (ha : PV X sl .b a fa) (hb : PV X sl .b b fb) (hc : PV X sl .b c fc) (hm : lastMarks [op, op'] [b, c] = false := by with_unfolding_all rfl) :
    PB X sl (.Compare a [op, op'] [b, c] pos) (fun s => (fa s).bind fun x => (fb s).bind fun y => (g x y).bind fun t => if t = true then (fc s).bind fun z => g' y z else some false) :=
  PT.imp (pt_chain C.rule C'.rule ha hb hc hm) fun σ H Q h => by
    obtain ⟨γ, S0, S, t, E, hf, q⟩ := h
    obtain ⟨u, w, h1, h2, h3⟩ := bind2 hf
    obtain ⟨t1, h4, h5⟩ := bind1 h3
    refine ⟨γ, S0, S, u, E, h1, fun x H1 s1 r1 => ⟨γ, S0, S, w, E.same s1, h2, fun y H2 s2 r2 => ?_⟩⟩
    have s12 := s1.trans s2
    refine C.ask (un S S0) H2 x y u w t1 _ (E.same s12).dT (Rb.mv (.same s2) r1 s2) r2 h4 fun v H3 s3 r3 => ⟨t1, r3, ?_⟩
    have s13 := s12.trans s3
    cases t1 with
    | false =>
      cases h5
      exact ⟨false, rfl, q H3 s13⟩
    | true =>
      obtain ⟨z, h6, h7⟩ := bind1 h5
      refine ⟨γ, S0, S, z, E.same s13, h6, fun z' H4 s4 r4 => ?_⟩
      have s14 := s13.trans s4
      exact C'.ask (un S S0) H4 y z' w z t _ (E.same s14).dT (Rb.mv (.same (s3.trans s4)) r2 (s3.trans s4)) r4 h7 fun v H5 s5 r5 => ⟨t, r5, q H5 (s14.trans s5)⟩
end

/-! ### and, or, not; if-expressions -/
section
variable {fa fb : Γ → Option Bool} {rest : List Expr}
theorem pb_not (ha : PB X sl a fa) : PB X sl (.UnaryOp .Not a pos) (fun s => (fa s).bind fun x => some (!x)) := PT.imp (pt_not ha) fun σ H Q ⟨γ, S0, S, t, E, hf, q⟩ => by
  obtain ⟨x, h1, h2⟩ := bind1 hf
  cases h2
  exact ⟨γ, S0, S, x, E, h1, fun H' s => q H' s⟩
theorem pb_and1 (ha : PB X sl a fa) : PBw X sl (.BoolOp .And [a] pos) fa := pw_and1 ha
theorem pb_or1 (ha : PB X sl a fa) : PBw X sl (.BoolOp .Or [a] pos) fa := pw_or1 ha
theorem pb_and (ha : PB X sl a fa) (hb : PBw X sl (.BoolOp .And (b :: rest) pos) fb) : PBw X sl (.BoolOp .And (a :: b :: rest) pos) (fun s => (fa s).bind fun x => if x = true then fb s else some false) :=
  PW.imp (pw_and ha hb) fun σ H Q ⟨γ, S0, S, t, E, hf, q⟩ => by
    obtain ⟨x, h1, h2⟩ := bind1 hf
    refine ⟨γ, S0, S, x, E, h1, fun H1 s1 => ?_⟩
    cases x with
    | false => cases h2; exact q H1 s1
    | true => exact ⟨γ, S0, S, t, E.same s1, h2, fun H2 s2 => q H2 (s1.trans s2)⟩
theorem pb_or (ha : PB X sl a fa) (hb : PBw X sl (.BoolOp .Or (b :: rest) pos) fb) : PBw X sl (.BoolOp .Or (a :: b :: rest) pos) (fun s => (fa s).bind fun x => if x = true then some true else fb s) :=
  PW.imp (pw_or ha hb) fun σ H Q ⟨γ, S0, S, t, E, hf, q⟩ => by
    obtain ⟨x, h1, h2⟩ := bind1 hf
    refine ⟨γ, S0, S, x, E, h1, fun H1 s1 => ?_⟩
    cases x with
    | true => cases h2; exact q H1 s1
    | false => exact ⟨γ, S0, S, t, E.same s1, h2, fun H2 s2 => q H2 (s1.trans s2)⟩
theorem PBw.pb {f : Γ → Option Bool} (h : PBw X sl e f) : PB X sl e f := PW.pt h
theorem pv_one {op} (ha : PV X sl .a a fa) : PV X sl .a (.BoolOp op [a] pos) fa := pe_one ha
theorem pv_and (ha : PV X sl .a a fa) (hb : PV X sl .a (.BoolOp .And (b :: rest) pos) fb) : PV X sl .a (.BoolOp .And (a :: b :: rest) pos) (fun s => (fa s).bind fun x => if x = true then fb s else some false) :=
  PE.imp (pe_and ha hb) fun σ H Q ⟨γ, S0, S, t, E, hf, q⟩ => by
    obtain ⟨x, h1, h2⟩ := bind1 hf
    refine ⟨γ, S0, S, x, E, h1, fun v H1 s1 r1 => ⟨x, r1, ?_⟩⟩
    cases x with
    | false => cases h2; exact q _ H1 s1 rfl
    | true => exact ⟨γ, S0, S, t, E.same s1, h2, fun v H2 s2 r2 => q v H2 (s1.trans s2) r2⟩
theorem pv_or (ha : PV X sl .a a fa) (hb : PV X sl .a (.BoolOp .Or (b :: rest) pos) fb) : PV X sl .a (.BoolOp .Or (a :: b :: rest) pos) (fun s => (fa s).bind fun x => if x = true then some true else fb s) :=
  PE.imp (pe_or ha hb) fun σ H Q ⟨γ, S0, S, t, E, hf, q⟩ => by
    obtain ⟨x, h1, h2⟩ := bind1 hf
    refine ⟨γ, S0, S, x, E, h1, fun v H1 s1 r1 => ⟨x, r1, ?_⟩⟩
    cases x with
    | true => cases h2; exact q _ H1 s1 rfl
    | false => exact ⟨γ, S0, S, t, E.same s1, h2, fun v H2 s2 r2 => q v H2 (s1.trans s2) r2⟩
theorem pv_not (ha : PV X sl .a a fa) : PV X sl .a (.UnaryOp .Not a pos) (fun s => (fa s).bind fun x => some (!x)) := PE.imp (pe_not ha) fun σ H Q ⟨γ, S0, S, t, E, hf, q⟩ => by
  obtain ⟨x, h1, h2⟩ := bind1 hf
  cases h2
  exact ⟨γ, S0, S, x, E, h1, fun v H' s r => ⟨x, r, q _ H' s rfl⟩⟩
theorem pv_if [Enc τ] {fc : Γ → Option Bool} {f g : Γ → Option τ} (hc : PB X sl c fc) (ha : PV X sl k a f) (hb : PV X sl k b g) : PV X sl k (.IfExp c a b pos) (fun s => (fc s).bind fun x => if x = true then f s else g s) :=
  PE.imp (pe_ifExp hc ha hb) fun σ H Q ⟨γ, S0, S, t, E, hf, q⟩ => by
    obtain ⟨x, h1, h2⟩ := bind1 hf
    refine ⟨γ, S0, S, x, E, h1, fun H1 s1 => ?_⟩
    cases x with
    | true => exact ⟨γ, S0, S, t, E.same s1, h2, fun v H2 s2 r2 => q v H2 (s1.trans s2) (r2.back s1)⟩
    | false => exact ⟨γ, S0, S, t, E.same s1, h2, fun v H2 s2 r2 => q v H2 (s1.trans s2) (r2.back s1)⟩
end

/-! ### == of scalars, of data -/
class Sc (τ : Type) [Enc τ] where
  val : τ → V
  rp : ∀ {K : PySem.W.Frag} {H : Hp} {T : Ad} {t : τ} {v : V}, Rb K H T (enc t) v → v = val t
  sc : ∀ s t : τ, scal (val s) (val t) = true
  inj : ∀ s t : τ, val s = val t → s = t
instance : Sc Int := ⟨V.int, fun h => rb_int h, fun _ _ => rfl, fun _ _ e => V.int.inj e⟩
instance : Sc Bool := ⟨V.bl, fun h => rb_bool h, fun _ _ => rfl, fun _ _ e => V.bl.inj e⟩
instance : Sc Tx := ⟨fun t => V.str ⟨t.cs.toArray⟩, fun h => rb_str h, fun _ _ => rfl, fun s t e => by
  have e1 := V.str.inj e
  have e2 : s.cs.toArray = t.cs.toArray := congrArg Str.cps e1
  have e3 : s.cs = t.cs := by simpa using e2
  cases s; cases t; exact congrArg Tx.mk e3⟩
theorem sc_dec [Enc τ] [Sc τ] [DecidableEq τ] (s t : τ) : decide (Sc.val s = Sc.val t) = decide (s = t) := by
  by_cases h : s = t
  · subst h; simp
  · rw [decide_eq_false h, decide_eq_false fun q => h (Sc.inj s t q)]
def c_eqS [Enc τ] [Sc τ] [DecidableEq τ] : Cmp X .Eq τ τ (fun x y => some (decide (x = y))) := ⟨_, op_eq, fun T H x y u w t Q hT r1 r2 e q => by
  cases e
  rw [Sc.rp r1, Sc.rp r2]
  exact ⟨Sc.sc u w, q _ H (Same.refl H) (by rw [sc_dec]; rfl)⟩⟩
def c_neS [Enc τ] [Sc τ] [DecidableEq τ] : Cmp X .NotEq τ τ (fun x y => some (!decide (x = y))) := ⟨_, op_ne, fun T H x y u w t Q hT r1 r2 e q => by
  cases e
  rw [Sc.rp r1, Sc.rp r2]
  exact ⟨Sc.sc u w, q _ H (Same.refl H) (by rw [sc_dec]; rfl)⟩⟩
/-- what is never None -/
class NN (τ : Type) [Enc τ] : Prop where
  nn : ∀ t : τ, enc t ≠ .none
instance : NN Int := ⟨nofun⟩
instance : NN Bool := ⟨nofun⟩
instance : NN Tx := ⟨nofun⟩
instance [Enc α] : NN (List α) := ⟨nofun⟩
instance [Enc α] [Enc β] : NN (T2 α β) := ⟨nofun⟩
instance [Enc α] [Enc β] [Enc γ'] : NN (T3 α β γ') := ⟨nofun⟩
instance [Enc α] [Enc β] [Enc γ'] [Enc τ] : NN (T4 α β γ' τ) := ⟨nofun⟩
/-- data that == compares -/
class EqT (τ : Type) [Enc τ] [DecidableEq τ] where
  ok : τ → Bool
  dep : Nat
  dle : ∀ t : τ, (enc t).depth ≤ dep
  can : ∀ t : τ, ok t = true → (enc t).canLay0 = true
  eqv : ∀ s t : τ, PyData.eqv (enc s) (enc t) = decide (s = t)
instance : EqT Int := ⟨fun _ => true, 0, fun _ => Nat.le_refl _, fun _ _ => rfl, fun s t => by show PyData.eqv (.int s) (.int t) = _; unfold PyData.eqv; exact Bool.beq_eq_decide_eq s t⟩
instance : EqT Bool := ⟨fun _ => true, 0, fun _ => Nat.le_refl _, fun _ _ => rfl, fun s t => by show PyData.eqv (.bool s) (.bool t) = _; unfold PyData.eqv; exact Bool.beq_eq_decide_eq s t⟩
instance : EqT Tx := ⟨fun t => PyData.strOk ⟨t.cs.toArray⟩, 0, fun _ => Nat.le_refl _, fun _ h => h, fun s t => by
  show PyData.eqv (.str _) (.str _) = _
  unfold PyData.eqv
  rw [Bool.beq_eq_decide_eq]
  by_cases h : s = t
  · subst h; simp
  · rw [decide_eq_false h, decide_eq_false]
    intro q
    apply h
    have e2 : s.cs.toArray = t.cs.toArray := congrArg Str.cps q
    cases s; cases t
    simpa using e2⟩
theorem depthAll_le {n : Nat} : ∀ {ds : List PyData}, (∀ d ∈ ds, d.depth ≤ n) → PyData.depthAll ds ≤ n
  | [], _ => by unfold PyData.depthAll; exact Nat.zero_le _
  | d :: ds, h => by
    unfold PyData.depthAll
    exact Nat.max_le.mpr ⟨h d List.mem_cons_self, depthAll_le fun x hx => h x (List.mem_cons_of_mem _ hx)⟩
theorem canAll_of : ∀ {ds : List PyData}, (∀ d ∈ ds, d.canLay0 = true) → PyData.canLayAll0 ds = true
  | [], _ => rfl
  | d :: ds, h => by
    unfold PyData.canLayAll0
    rw [h d List.mem_cons_self, canAll_of fun x hx => h x (List.mem_cons_of_mem _ hx)]
    rfl
section
variable [Enc α] [DecidableEq α] [EqT α] [Enc β] [DecidableEq β] [EqT β] [Enc γ'] [DecidableEq γ'] [EqT γ']
theorem eqvAll_of : ∀ xs ys : List α, PyData.eqvAll (xs.map enc) (ys.map enc) = decide (xs = ys)
  | [], [] => by simp [PyData.eqvAll]
  | [], _ :: _ => by simp [PyData.eqvAll]
  | _ :: _, [] => by simp [PyData.eqvAll]
  | x :: xs, y :: ys => by
    rw [List.map_cons, List.map_cons, PyData.eqvAll, EqT.eqv, eqvAll_of xs ys]
    simp
instance : EqT (List α) := ⟨fun t => t.all EqT.ok, EqT.dep α + 1, fun t => by
  show PyData.depth (.list (t.map enc)) ≤ _
  unfold PyData.depth
  refine Nat.succ_le_succ (depthAll_le fun d hd => ?_)
  obtain ⟨x, _, rfl⟩ := List.mem_map.mp hd
  exact EqT.dle x, fun t h => by
  show PyData.canLay0 (.list (t.map enc)) = true
  unfold PyData.canLay0
  refine canAll_of fun d hd => ?_
  obtain ⟨x, hx, rfl⟩ := List.mem_map.mp hd
  exact EqT.can x (List.all_eq_true.mp h x hx), fun s t => by
  show PyData.eqv (.list (s.map enc)) (.list (t.map enc)) = _
  unfold PyData.eqv
  exact eqvAll_of s t⟩
theorem eqv_none {d : PyData} (h : d ≠ .none) : PyData.eqv .none d = false ∧ PyData.eqv d .none = false := by
  cases d with
  | none => exact absurd rfl h
  | bool _ => simp [PyData.eqv]
  | int _ => simp [PyData.eqv]
  | str _ => simp [PyData.eqv]
  | list _ => simp [PyData.eqv]
  | tuple _ => simp [PyData.eqv]
  | dict _ => simp [PyData.eqv]
instance [NN α] : EqT (Option α) := ⟨fun t => match t with | none => true | some t => EqT.ok t, EqT.dep α, fun t => match t with
  | none => Nat.zero_le _
  | some t => EqT.dle t, fun t h => match t, h with
  | none, _ => rfl
  | some t, h => EqT.can t h, fun s t => match s, t with
  | none, none => by simp; rfl
  | none, some t => by simp; exact (eqv_none (NN.nn t)).1
  | some s, none => by simp; exact (eqv_none (NN.nn s)).2
  | some s, some t => by
    have e := EqT.eqv s t
    by_cases h : s = t
    · subst h; simp at e ⊢; exact e
    · simp [h] at e ⊢; exact e⟩
instance : EqT (T2 α β) := ⟨fun t => EqT.ok t.a && EqT.ok t.b, max (EqT.dep α) (EqT.dep β) + 1, fun t => by
  show PyData.depth (.tuple [enc t.a, enc t.b]) ≤ _
  have h1 := EqT.dle t.a
  have h2 := EqT.dle t.b
  simp only [PyData.depth, PyData.depthAll]
  omega, fun t h => by
  show PyData.canLay0 (.tuple [enc t.a, enc t.b]) = true
  simp only [Bool.and_eq_true] at h
  simp [PyData.canLay0, PyData.canLayAll0, EqT.can t.a h.1, EqT.can t.b h.2], fun s t => by
  show PyData.eqv (.tuple [enc s.a, enc s.b]) (.tuple [enc t.a, enc t.b]) = _
  simp only [PyData.eqv, PyData.eqvAll, EqT.eqv]
  cases s; cases t; simp⟩
instance : EqT (T3 α β γ') := ⟨fun t => EqT.ok t.a && (EqT.ok t.b && EqT.ok t.c), max (EqT.dep α) (max (EqT.dep β) (EqT.dep γ')) + 1, fun t => by
  show PyData.depth (.tuple [enc t.a, enc t.b, enc t.c]) ≤ _
  have h1 := EqT.dle t.a
  have h2 := EqT.dle t.b
  have h3 := EqT.dle t.c
  simp only [PyData.depth, PyData.depthAll]
  omega, fun t h => by
  show PyData.canLay0 (.tuple [enc t.a, enc t.b, enc t.c]) = true
  simp only [Bool.and_eq_true] at h
  simp [PyData.canLay0, PyData.canLayAll0, EqT.can t.a h.1, EqT.can t.b h.2.1, EqT.can t.c h.2.2], fun s t => by
  show PyData.eqv (.tuple [enc s.a, enc s.b, enc s.c]) (.tuple [enc t.a, enc t.b, enc t.c]) = _
  simp only [PyData.eqv, PyData.eqvAll, EqT.eqv]
  cases s; cases t; simp⟩
end
instance [Enc α] [DecidableEq α] [EqT α] [Enc β] [DecidableEq β] [EqT β] [Enc γ'] [DecidableEq γ'] [EqT γ'] [Enc τ] [DecidableEq τ] [EqT τ] : EqT (T4 α β γ' τ) := ⟨fun t => EqT.ok t.a && (EqT.ok t.b && (EqT.ok t.c && EqT.ok t.d)), max (EqT.dep α) (max (EqT.dep β) (max (EqT.dep γ') (EqT.dep τ))) + 1, fun t => by
  show PyData.depth (.tuple [enc t.a, enc t.b, enc t.c, enc t.d]) ≤ _
  have h1 := EqT.dle t.a
  have h2 := EqT.dle t.b
  have h3 := EqT.dle t.c
  have h4 := EqT.dle t.d
  simp only [PyData.depth, PyData.depthAll]
  omega, fun t h => by
  show PyData.canLay0 (.tuple [enc t.a, enc t.b, enc t.c, enc t.d]) = true
  simp only [Bool.and_eq_true] at h
  simp [PyData.canLay0, PyData.canLayAll0, EqT.can t.a h.1, EqT.can t.b h.2.1, EqT.can t.c h.2.2.1, EqT.can t.d h.2.2.2], fun s t => by
  show PyData.eqv (.tuple [enc s.a, enc s.b, enc s.c, enc s.d]) (.tuple [enc t.a, enc t.b, enc t.c, enc t.d]) = _
  simp only [PyData.eqv, PyData.eqvAll, EqT.eqv]
  cases s; cases t; simp⟩

theorem Rb.dp {K : PySem.W.Frag} {H : Hp} {T : Ad} {d : PyData} {v : V} (h : Rb K H T d v) (n : PyData.hasDict d = false) : Dp K H v d := by
  rcases h with h | ⟨ds, a, xs, rfl, rfl, h1, h2⟩ | ⟨kvs, _, _, rfl, _⟩
  · exact Rp.dp d v h (by rintro kvs rfl; simp [PyData.hasDict] at n) n
  · exact .lst (.inl h1) (RpA.dp ds xs h2 (by simpa [PyData.hasDict] using n))
  · simp [PyData.hasDict] at n
section
variable [Enc τ] [DecidableEq τ] [EqT τ]
theorem shaped_of {t : τ} (h : EqT.ok t = true) (hd : EqT.dep τ ≤ 64) : SeqAt.shaped (enc t) = true := by
  unfold SeqAt.shaped
  rw [EqT.can t h, decide_eq_true (Nat.le_trans (EqT.dle t) hd)]
  rfl
def dEq (x y : τ) : Option Bool := if EqT.ok x = true ∧ EqT.ok y = true then some (decide (x = y)) else none
def dNe (x y : τ) : Option Bool := if EqT.ok x = true ∧ EqT.ok y = true then some (!decide (x = y)) else none
def c_eqD (hu : X.A.units + 64 < cLine) (hd : EqT.dep τ ≤ 64 := by decide) : Cmp X .Eq τ τ (fun x y => dEq x y) := ⟨_, op_eqD hu, fun T H x y u w t Q hT r1 r2 e q => by
  obtain ⟨⟨h1, h2⟩, rfl⟩ := if_some e
  refine ⟨enc u, enc w, r1.dp (PyData.hasDict_of_canLay _ (EqT.can u h1)), r2.dp (PyData.hasDict_of_canLay _ (EqT.can w h2)), shaped_of h1 hd, shaped_of h2 hd, q _ H (Same.refl H) ?_⟩
  rw [EqT.eqv]; rfl⟩
def c_neD (hu : X.A.units + 64 < cLine) (hd : EqT.dep τ ≤ 64 := by decide) : Cmp X .NotEq τ τ (fun x y => dNe x y) := ⟨_, op_neD hu, fun T H x y u w t Q hT r1 r2 e q => by
  obtain ⟨⟨h1, h2⟩, rfl⟩ := if_some e
  refine ⟨enc u, enc w, r1.dp (PyData.hasDict_of_canLay _ (EqT.can u h1)), r2.dp (PyData.hasDict_of_canLay _ (EqT.can w h2)), shaped_of h1 hd, shaped_of h2 hd, q _ H (Same.refl H) ?_⟩
  rw [EqT.eqv]; rfl⟩
end
/-! ### is None -/
theorem rb_non {K : PySem.W.Frag} {H : Hp} {T : Ad} {d : PyData} (h : Rb K H T d .non) : d = .none := by
  rcases h with h | ⟨_, _, _, _, e, _⟩ | ⟨_, _, _, _, e, _⟩
  · cases d with
    | none => rfl
    | bool b => cases (show V.non = .bl b from h)
    | int b => cases (show V.non = .int b from h)
    | str b => cases (show V.non = .str b from h)
    | list b => obtain ⟨_, _, e, _⟩ := h; cases e
    | tuple b => obtain ⟨_, _, e, _⟩ := h; cases e
    | dict b => obtain ⟨_, _, e, _⟩ := h; cases e
  · cases e
  · cases e
section
variable [Enc τ] [NN τ] {f : Γ → Option (Option τ)}
theorem isN_dec {K : PySem.W.Frag} {H : Hp} {T : Ad} {t : Option τ} {v : V} (h : Rb K H T (enc t) v) : decide (v = .non) = t.isNone := by
  cases t with
  | none => rw [rb_none h]; rfl
  | some t =>
    refine decide_eq_false fun e => ?_
    subst e
    exact NN.nn t (rb_non h)
def c_is : Cmp X .Is (Option τ) Unit (fun x _ => some x.isNone) := ⟨_, op_isN, fun T H x y u w t Q hT r1 r2 e q => by
  cases e
  exact ⟨rb_none r2, q _ H (Same.refl H) (by rw [isN_dec r1]; rfl)⟩⟩
def c_isnt : Cmp X .IsNot (Option τ) Unit (fun x _ => some (!x.isNone)) := ⟨_, op_notN, fun T H x y u w t Q hT r1 r2 e q => by
  cases e
  exact ⟨rb_none r2, q _ H (Same.refl H) (by rw [isN_dec r1]; rfl)⟩⟩
end
end PL

/-! PL4: lists, tuples, texts, known functions. -/
namespace PL
open PySem PySem.Spec L2
open Enc (enc)

variable {Γ Γ' ρ τ α β γ' δ : Type} {X : Cx} {sl : Γ → Sl} {e a b c : Expr} {k k1 k2 k3 : Kd} {pos : Pos}

/-! ### what a value is, by its type -/
section
variable {K : PySem.W.Frag} {H : Hp} {T : Ad} {v : V}
theorem rb_l [Enc τ] {t : List τ} (h : Rb K H T (enc t) v) : ∃ a xs, v = .ref a ∧ SqL K H a xs ∧ RpA K H T (t.map enc) xs := rb_list h
theorem rb_i {t : Int} (h : Rb K H T (enc t) v) : v = .int t := rb_int h
theorem rb_t {t : Tx} (h : Rb K H T (enc t) v) : v = .str ⟨t.cs.toArray⟩ := rb_str h
/-- a new list -/
theorem fr_new [Enc τ] {t : List τ} {p : Addr} {xs : List V} (hT : ∀ a, T a → H a ≠ none) (hp : H p = none) (h : RpA K H T (t.map enc) xs) : RK .f K H (upd H p (.lst xs)) T (enc t) (.ref p) := by
  refine ⟨p, rfl, hp, .inl ⟨_, xs, rfl, upd_same, h.mv fun a o e n => ?_⟩⟩
  have ne := ne_of_none e hp
  exact ⟨by rw [upd_ne ne]; exact e, fun z => z.elim n ne⟩
theorem same_new {p : Addr} {o : HO} (h : H p = none) : Same H (upd H p o) := fun b x e => by
  rw [upd_ne (ne_of_none e h)]
  exact e
theorem rp_newT {ds : List PyData} {p : Addr} {xs : List V} (hT : ∀ a, T a → H a ≠ none) (hp : H p = none) (h : RpA K H T ds xs) : Rp K (upd H p (.tup xs)) T (.tuple ds) (.ref p) :=
  ⟨p, xs, rfl, .inl ⟨.inl upd_same, fun z => hT p z hp⟩, h.mv (.same (same_new hp))⟩
theorem map_len [Enc τ] {t : List τ} {xs : List V} (h : RpA K H T (t.map enc) xs) : xs.length = t.length := by rw [h.length, List.length_map]
theorem map_get [Enc τ] {t : List τ} {xs : List V} {i : Nat} {d : τ} (h : RpA K H T (t.map enc) xs) (e : t[i]? = some d) : ∃ v, xs[i]? = some v ∧ Rp K H T (enc d) v :=
  h.get (by rw [List.getElem?_map, e]; rfl)
theorem rpa_at {ds : List PyData} {xs : List V} {i : Int} {d : PyData} (h : RpA K H T ds xs) (e : atI ds i = some d) : ∃ v, atI xs i = some v ∧ Rp K H T d v := by
  unfold atI at e ⊢
  rw [h.length]
  obtain ⟨j, h1, h2⟩ := bind1 e
  obtain ⟨v, h3, h4⟩ := h.get h2
  exact ⟨v, by rw [h1]; exact h3, h4⟩
theorem map_at [Enc τ] {t : List τ} {xs : List V} {i : Int} {d : τ} (h : RpA K H T (t.map enc) xs) (e : atI t i = some d) : ∃ v, atI xs i = some v ∧ Rp K H T (enc d) v := by
  unfold atI at e ⊢
  rw [map_len h]
  obtain ⟨j, h1, h2⟩ := bind1 e
  obtain ⟨v, h3, h4⟩ := map_get h h2
  exact ⟨v, by rw [h1]; exact h3, h4⟩
end

/-! ### subscripts -/
theorem pv_ix [Enc τ] {fa : Γ → Option (List τ)} {fb : Γ → Option Int} (ha : PV X sl .b a fa) (hb : PV X sl .b b fb) (hx : PlainIx b := by exact fun _ _ => rfl) : PV X sl .a (.Subscript a b pos) (fun s => (fa s).bind fun x => (fb s).bind fun i => atI x i) :=
  pv_2 (fun h1 h2 => pe_ix ix_list h1 h2 hx) (fun T H x y u w t Q hT r1 r2 e q => by
    obtain ⟨p, xs, rfl, h1, h2⟩ := rb_l r1
    obtain ⟨v, h3, h4⟩ := map_at h2 e
    exact ⟨p, xs, w, v, rfl, rb_i r2, h1, h3, q v H (Same.refl H) h4⟩) ha hb
/-- t[j] of a tuple -/
theorem pv_ixT [Enc τ] [Enc β] {fa : Γ → Option τ} {i : Int} {j0 : Nat} {p0 : Pos} (ds : τ → List PyData) (p : τ → β) (hd : ∀ t, enc t = .tuple (ds t)) (hi : ∀ t, atI (ds t) i = some (enc (p t))) (ha : PV X sl .b a fa) :
    PV X sl .a (.Subscript a (.Constant (.int i) j0 p0) pos) (fun s => (fa s).bind fun x => some (p x)) := by
  refine PV.eq (f := fun s => (fa s).bind fun x => (some i : Option Int).bind fun w => if w = i then some (p x) else none) ?_ (by funext s; cases fa s <;> simp)
  exact pv_2 (fb := fun _ => some i) (g := fun x w => if w = i then some (p x) else none) (fun h1 h2 => pe_ix ix_tup h1 h2 (fun _ _ => rfl)) (fun T H x y u w t Q hT r1 r2 e q => by
    obtain ⟨rfl, rfl⟩ := if_some e
    rw [hd u] at r1
    obtain ⟨a, xs, rfl, h1, h2⟩ := rb_tup r1
    obtain ⟨v, h3, h4⟩ := rpa_at h2 (hi u)
    exact ⟨a, xs, w, v, rfl, rb_i r2, h1, h3, q v H (Same.refl H) h4⟩) ha pv_int.ab
def sIx (t : Tx) (i : Int) : Option Tx := if t.cs.length ≤ sizeLine then (atI t.cs i).map fun c => ⟨[c]⟩ else none
theorem pv_ixS {fa : Γ → Option Tx} {fb : Γ → Option Int} (ha : PV X sl .b a fa) (hb : PV X sl .b b fb) (hx : PlainIx b := by exact fun _ _ => rfl) : PV X sl .a (.Subscript a b pos) (fun s => (fa s).bind fun x => (fb s).bind fun i => sIx x i) :=
  pv_2 (fun h1 h2 => pe_ix ix_str h1 h2 hx) (fun T H x y u w t Q hT r1 r2 e q => by
    unfold sIx at e
    by_cases hz : u.cs.length ≤ sizeLine
    · rw [if_pos hz] at e
      cases h : atI u.cs w with
      | none => rw [h] at e; cases e
      | some c =>
        rw [h] at e
        cases e
        exact ⟨_, w, c, rb_t r1, rb_i r2, hz, h, q _ H (Same.refl H) rfl⟩
    · rw [if_neg hz] at e; cases e) ha hb

/-! ### slices -/
def cut (xs : List τ) (lo hi : Option Int) : List τ := (xs.drop (HT.sIx xs.length 0 lo)).take (HT.sIx xs.length xs.length hi - HT.sIx xs.length 0 lo)
def tOo (K : PySem.W.Frag) (sl : Γ → Sl) (f : Γ → Option (Option Int)) : TO := fun σ H Q =>
  ∃ (g : Γ) (S0 S : Ad) (t : Option Int), EnvS K S0 S H (sl g) σ ∧ f g = some t ∧ ∀ H', Same H H' → Q t H'
def PVo (X : Cx) (sl : Γ → Sl) (e : Option Expr) (f : Γ → Option (Option Int)) : Prop := PO X e (tOo X.K sl f)
theorem pvo_none : PVo X sl none (fun _ => some none) := PO.imp po_none fun σ H Q ⟨g, S0, S, t, E, hf, q⟩ => by
  cases hf
  exact q H (Same.refl H)
theorem pvo_some {f : Γ → Option Int} (h : PV X sl .b e f) : PVo X sl (some e) (fun s => (f s).bind fun i => some (some i)) := PO.imp (po_some h) fun σ H Q ⟨g, S0, S, t, E, hf, q⟩ => by
  obtain ⟨i, h1, h2⟩ := bind1 hf
  cases h2
  exact ⟨g, S0, S, i, E, h1, fun v H' s r => ⟨i, rb_i r, q H' s⟩⟩
theorem cut_rp [Enc τ] {K : PySem.W.Frag} {H : Hp} {T : Ad} {t : List τ} {xs : List V} {lo hi : Option Int} (h : RpA K H T (t.map enc) xs) : RpA K H T ((cut t lo hi).map enc) (cutV xs lo hi) := by
  unfold cut cutV
  rw [map_len h, List.map_take, List.map_drop]
  exact RpA.take _ (RpA.drop _ h)
section
variable {lo hi : Option Expr} {fl fh : Γ → Option (Option Int)} {p2 : Pos}
theorem pv_sl [Enc τ] {fa : Γ → Option (List τ)} (ha : PV X sl .b a fa) (hl : PVo X sl lo fl) (hh : PVo X sl hi fh) : PV X sl .f (.Subscript a (.Slice lo hi none p2) pos) (fun s => (fa s).bind fun x => (fl s).bind fun i => (fh s).bind fun j => some (cut x i j)) :=
  PE.imp (pe_slice sl_list ha hl hh) fun σ H Q ⟨g, S0, S, t, E, hf, q⟩ => by
    obtain ⟨x, i, h1, h2, h3⟩ := bind2 hf
    obtain ⟨j, h4, h5⟩ := bind1 h3
    cases h5
    refine ⟨g, S0, S, x, E, h1, fun v H1 s1 r1 => ⟨g, S0, S, i, E.same s1, h2, fun H2 s2 => ⟨g, S0, S, j, (E.same s1).same s2, h4, fun H3 s3 => ?_⟩⟩⟩
    have s23 := s2.trans s3
    obtain ⟨p, xs, rfl, h6, h7⟩ := rb_l (Rb.mv (.same s23) r1 s23)
    have s13 := s1.trans s23
    refine ⟨p, xs, rfl, h6, fun r hr => ?_⟩
    exact q _ _ (s13.trans (same_new hr)) ((fr_new (E.same s13).dT hr (cut_rp h7)).back s13)
def cutT (t : Tx) (lo hi : Option Int) : Option Tx := if t.cs.length ≤ sizeLine then some ⟨cut t.cs lo hi⟩ else none
theorem pv_slS {fa : Γ → Option Tx} (ha : PV X sl .b a fa) (hl : PVo X sl lo fl) (hh : PVo X sl hi fh) : PV X sl .a (.Subscript a (.Slice lo hi none p2) pos) (fun s => (fa s).bind fun x => (fl s).bind fun i => (fh s).bind fun j => cutT x i j) :=
  PE.imp (pe_slice sl_str ha hl hh) fun σ H Q ⟨g, S0, S, t, E, hf, q⟩ => by
    obtain ⟨x, i, h1, h2, h3⟩ := bind2 hf
    obtain ⟨j, h4, h5⟩ := bind1 h3
    obtain ⟨hz, rfl⟩ := if_some h5
    refine ⟨g, S0, S, x, E, h1, fun v H1 s1 r1 => ⟨g, S0, S, i, E.same s1, h2, fun H2 s2 => ⟨g, S0, S, j, (E.same s1).same s2, h4, fun H3 s3 => ?_⟩⟩⟩
    exact ⟨_, rb_t r1, hz, q _ _ (s1.trans (s2.trans s3)) rfl⟩
theorem pv_rev [Enc τ] {fa : Γ → Option (List τ)} {k0 : Nat} {p1 p2 p3 : Pos} (ha : PV X sl .b a fa) : PV X sl .f (.Subscript a (.Slice none none (some (.UnaryOp .USub (.Constant (.int 1) k0 p1) p2)) p3) pos) (fun s => (fa s).bind fun x => some x.reverse) :=
  PE.imp (pe_revL ha) fun σ H Q ⟨g, S0, S, t, E, hf, q⟩ => by
    obtain ⟨x, h1, h2⟩ := bind1 hf
    cases h2
    refine ⟨g, S0, S, x, E, h1, fun v H1 s1 r1 => ?_⟩
    obtain ⟨p, xs, rfl, h6, h7⟩ := rb_l r1
    refine ⟨p, xs, rfl, h6, fun r hr => ?_⟩
    exact q _ _ (s1.trans (same_new hr)) ((fr_new (E.same s1).dT hr (by rw [List.map_reverse]; exact h7.rev)).back s1)
end

/-! ### list + list, text + text -/
def rCatQ (K : PySem.W.Frag) : R2 := fun x y H Q => ∃ l b xs zs, x = .ref l ∧ y = .ref b ∧ SqL K H l xs ∧ SqL K H b zs ∧ xs.length + zs.length ≤ sizeLine ∧ ∀ p, H p = none → Q (.ref p) (upd H p (.lst (xs ++ zs)))
theorem op_catQ : OpR X (binaryOp .Add) (rCatQ X.K) := by
  intro pins s σ H x y v u Q I rx ry h
  obtain ⟨l, m, xs, zs, rfl, rfl, h1, h2, hz, q⟩ := h
  cases rx; cases ry
  obtain ⟨its, r, ⟨o, n, ho, hc, _, hd⟩, _⟩ := I.list h1
  obtain ⟨its2, r2, ⟨o2, n2, ho2, hc2, _, hd2⟩, _⟩ := I.list h2
  obtain ⟨c1, d1, t1, w1⟩ := o
  obtain ⟨c2, d2, t2, w2⟩ := o2
  simp only at hc hd hc2 hd2
  subst hc hd hc2 hd2
  have hs : its.toArray.size + its2.toArray.size ≤ sizeLine := by
    rw [List.size_toArray, List.size_toArray, ← r.length, ← r2.length]; exact hz
  have G := PyProof.Rows.list_addW l m its.toArray its2.toArray n n2 d1 d2 w1 w2 hs
  refine concat_meets ⟨_, ho, rfl⟩ ⟨_, ho2, rfl⟩ noFill_list_add seq_list_add PySem.F.slot_list_add PySem.F.entry_list_add (PySem.F.args_list_add_2 _ _) G ⟨ho, ho2, ?_⟩
  have ea : its.toArray ++ its2.toArray = (its ++ its2).toArray := by simp
  rw [ea]
  exact ⟨.ref _, _, I.lnew (t' := s.toks) (r.append r2) (by rw [List.length_append]; exact hz), rfl, q _ I.fresh⟩
def lCat (x y : List τ) : Option (List τ) := if x.length + y.length ≤ sizeLine then some (x ++ y) else none
theorem pv_cat [Enc τ] {fa fb : Γ → Option (List τ)} (ha : PV X sl .b a fa) (hb : PV X sl .b b fb) : PV X sl .f (.BinOp a .Add b pos) (fun s => (fa s).bind fun x => (fb s).bind fun y => lCat x y) :=
  pv_2 (pe_op op_catQ) (fun T H x y u w t Q hT r1 r2 e q => by
    obtain ⟨hz, rfl⟩ := if_some e
    obtain ⟨p, xs, rfl, h1, h2⟩ := rb_l r1
    obtain ⟨p', xs', rfl, h1', h2'⟩ := rb_l r2
    refine ⟨p, p', xs, xs', rfl, rfl, h1, h1', by rw [map_len h2, map_len h2']; exact hz, fun r hr => ?_⟩
    exact q _ _ (same_new hr) (fr_new hT hr (by rw [List.map_append]; exact h2.append h2'))) ha hb
def tCat (x y : Tx) : Option Tx := if x.cs.length + y.cs.length ≤ sizeLine then some ⟨x.cs ++ y.cs⟩ else none
theorem str_app (x y : List Nat) : ((⟨x.toArray⟩ : Str) ++ (⟨y.toArray⟩ : Str)) = ⟨(x ++ y).toArray⟩ := by
  show Str.mk _ = _
  congr 1
  simp
theorem pv_catS {fa fb : Γ → Option Tx} (ha : PV X sl .b a fa) (hb : PV X sl .b b fb) : PV X sl .a (.BinOp a .Add b pos) (fun s => (fa s).bind fun x => (fb s).bind fun y => tCat x y) :=
  pv_2 (pe_op op_add_str) (fun T H x y u w t Q hT r1 r2 e q => by
    obtain ⟨hz, rfl⟩ := if_some e
    exact ⟨_, _, rb_t r1, rb_t r2, hz, q _ H (Same.refl H) (by rw [str_app]; rfl)⟩) ha hb

/-! ### known functions -/
section
variable {x : Str} {p : Pos} {fa fb : Γ → Option Int}
theorem pv_len [Enc τ] {fa : Γ → Option (List τ)} (hg : Gl X "len") (hm : X.mg "len" = none) (ha : PV X sl .b a fa) (he : starEach [a] X.env = (false, eval a X.env) :: starEach [] X.env := by rfl) :
    PV X sl .a (.Call (.Name "len" p) [a] [] pos) (fun s => (fa s).bind fun x => some (x.length : Int)) :=
  pv_c1 (fun h => pe_callB call_len_seq hg hm PySem.boot_len (pa_cons h pa_nil he) (he := he)) (fun T H x u t Q hT r e q => by
    cases e
    obtain ⟨p, xs, rfl, h1, h2⟩ := rb_l r
    exact ⟨p, xs, rfl, .inl h1, q _ H (Same.refl H) (by rw [map_len h2]; rfl)⟩) ha
end
end PL

/-! PL5: displays, known functions. -/
namespace PL
open PySem PySem.Spec L2
open Enc (enc)

variable {Γ Γ' ρ τ α β γ' δ : Type} {X : Cx} {sl : Γ → Sl} {e a b c d : Expr} {es : List Expr} {k k1 k2 k3 : Kd} {pos : Pos}

/-! ### displays -/
def tAl [Enc τ] (K : PySem.W.Frag) (sl : Γ → Sl) (f : Γ → Option (List τ)) : TA := fun σ H Q =>
  ∃ (g : Γ) (S0 S : Ad) (t : List τ), EnvS K S0 S H (sl g) σ ∧ f g = some t ∧ ∀ vs H', Same H H' → RpA K H' (un S S0) (t.map enc) vs → Q vs H'
def PAl [Enc τ] (X : Cx) (sl : Γ → Sl) (n : Nat) (es : List Expr) (f : Γ → Option (List τ)) : Prop := PA X es (tAl X.K sl f) ∧ ∀ s t, f s = some t → t.length ≤ n
def PAs [Enc τ] (X : Cx) (sl : Γ → Sl) (es : List Expr) (f : Γ → Option (List τ)) : Prop := PA X es (tAl X.K sl f)
theorem pas_nil [Enc τ] : PAs X sl [] (fun _ => some ([] : List τ)) := PA.imp pa_nil fun σ H Q ⟨g, S0, S, t, E, hf, q⟩ => by
  cases hf
  exact q [] H (Same.refl H) rfl
theorem pas_cons [Enc τ] {f : Γ → Option τ} {g : Γ → Option (List τ)} (h : PV X sl .a e f) (hr : PAs X sl es g) (hs : starEach (e :: es) X.env = (false, eval e X.env) :: starEach es X.env := by rfl) :
    PAs X sl (e :: es) (fun s => (f s).bind fun x => (g s).bind fun r => some (x :: r)) := PA.imp (pa_cons h hr hs) fun σ H Q ⟨γ, S0, S, t, E, hf, q⟩ => by
  obtain ⟨x, r, h1, h2, h3⟩ := bind2 hf
  cases h3
  refine ⟨γ, S0, S, x, E, h1, fun v H1 s1 r1 => ⟨γ, S0, S, r, E.same s1, h2, fun vs H2 s2 r2 => ?_⟩⟩
  exact q _ H2 (s1.trans s2) ⟨v, vs, rfl, Rp.mv (.same s2) _ v r1, r2⟩
theorem pas_star [Enc τ] {f : Γ → Option (List τ)} {g : Γ → Option (List τ)} {p : Pos} (h : PV X sl .b e f) (hr : PAs X sl es g) (hs : starEach (.Starred e p :: es) X.env = (true, eval e X.env) :: starEach es X.env := by rfl) :
    PAs X sl (.Starred e p :: es) (fun s => (f s).bind fun x => (g s).bind fun r => some (x ++ r)) := PA.imp (StX.pa_star h hr hs) fun σ H Q ⟨γ, S0, S, t, E, hf, q⟩ => by
  obtain ⟨x, r, h1, h2, h3⟩ := bind2 hf
  cases h3
  refine ⟨γ, S0, S, x, E, h1, fun v H1 s1 r1 => ?_⟩
  obtain ⟨p, xs, rfl, h4, h5⟩ := rb_l r1
  refine ⟨p, xs, rfl, .inr h4, γ, S0, S, r, E.same s1, h2, fun vs H2 s2 r2 => ?_⟩
  exact q _ H2 (s1.trans s2) (by rw [List.map_append]; exact (h5.mv (.same s2)).append r2)
theorem pal_nil [Enc τ] : PAl X sl 0 [] (fun _ => some ([] : List τ)) := ⟨pas_nil, fun s t h => by cases h; exact Nat.le_refl _⟩
theorem pal_cons [Enc τ] {n : Nat} {f : Γ → Option τ} {g : Γ → Option (List τ)} (h : PV X sl .a e f) (hr : PAl X sl n es g) (hs : starEach (e :: es) X.env = (false, eval e X.env) :: starEach es X.env := by rfl) :
    PAl X sl (n + 1) (e :: es) (fun s => (f s).bind fun x => (g s).bind fun r => some (x :: r)) := ⟨pas_cons h hr.1 hs, fun s t hf => by
  obtain ⟨x, r, h1, h2, h3⟩ := bind2 hf
  cases h3
  exact Nat.succ_le_succ (hr.2 s r h2)⟩
def lNew (t : List τ) : Option (List τ) := if t.length ≤ sizeLine then some t else none
theorem pv_lstS [Enc τ] {f : Γ → Option (List τ)} (h : PAs X sl es f) : PV X sl .f (.List es pos) (fun s => (f s).bind fun x => lNew x) := PE.imp (pe_lst h) fun σ H Q ⟨γ, S0, S, t, E, hf, q⟩ => by
  obtain ⟨x, h1, h2⟩ := bind1 hf
  obtain ⟨hz, rfl⟩ := if_some h2
  refine ⟨γ, S0, S, x, E, h1, fun vs H1 s1 r1 => ⟨by rw [map_len r1]; exact hz, fun p hp => ?_⟩⟩
  exact q _ _ (s1.trans (same_new hp)) ((fr_new (E.same s1).dT hp r1).back s1)
theorem pv_lst [Enc τ] {n : Nat} {f : Γ → Option (List τ)} (h : PAl X sl n es f) (hn : n ≤ sizeLine := by decide) : PV X sl .f (.List es pos) f := PE.imp (pe_lst h.1) fun σ H Q ⟨γ, S0, S, t, E, hf, q⟩ => by
  refine ⟨γ, S0, S, t, E, hf, fun vs H1 s1 r1 => ⟨by rw [map_len r1]; exact Nat.le_trans (h.2 _ _ hf) hn, fun p hp => ?_⟩⟩
  exact q _ _ (s1.trans (same_new hp)) ((fr_new (E.same s1).dT hp r1).back s1)
section
variable [Enc α] [Enc β] [Enc γ'] [Enc δ] {fa : Γ → Option α} {fb : Γ → Option β} {fc : Γ → Option γ'} {fd : Γ → Option δ}
theorem pv_tup2 {x1} (ha : PV X sl .a a fa) (hb : PV X sl .a b fb) (h1 : starEach [a, b] X.env = (false, eval a X.env) :: starEach [b] X.env := by rfl) (h2 : starEach [b] X.env = (false, eval b X.env) :: starEach [] X.env := by rfl) :
    PV X sl .a (.Tuple [a, b] x1 pos) (fun s => (fa s).bind fun x => (fb s).bind fun y => some (T2.mk x y)) := PE.imp (pe_tup (pa_cons ha (pa_cons hb pa_nil h2) h1)) fun σ H Q ⟨γ, S0, S, t, E, hf, q⟩ => by
  obtain ⟨x, y, e1, e2, e3⟩ := bind2 hf
  cases e3
  refine ⟨γ, S0, S, x, E, e1, fun v H1 s1 r1 => ⟨γ, S0, S, y, E.same s1, e2, fun w H2 s2 r2 => ⟨by show 2 ≤ sizeLine; decide, fun p hp => ?_⟩⟩⟩
  have s12 := s1.trans s2
  exact q _ _ (s12.trans (same_new hp)) (rp_newT (E.same s12).dT hp ⟨v, [w], rfl, Rp.mv (.same s2) _ v r1, .one r2⟩)
theorem pv_tup3 {x1} (ha : PV X sl .a a fa) (hb : PV X sl .a b fb) (hc : PV X sl .a c fc) (h1 : starEach [a, b, c] X.env = (false, eval a X.env) :: starEach [b, c] X.env := by rfl) (h2 : starEach [b, c] X.env = (false, eval b X.env) :: starEach [c] X.env := by rfl) (h3 : starEach [c] X.env = (false, eval c X.env) :: starEach [] X.env := by rfl) :
    PV X sl .a (.Tuple [a, b, c] x1 pos) (fun s => (fa s).bind fun x => (fb s).bind fun y => (fc s).bind fun z => some (T3.mk x y z)) := PE.imp (pe_tup (pa_cons ha (pa_cons hb (pa_cons hc pa_nil h3) h2) h1)) fun σ H Q ⟨γ, S0, S, t, E, hf, q⟩ => by
  obtain ⟨x, y, e1, e2, e3⟩ := bind2 hf
  obtain ⟨z, e4, e5⟩ := bind1 e3
  cases e5
  refine ⟨γ, S0, S, x, E, e1, fun v H1 s1 r1 => ⟨γ, S0, S, y, E.same s1, e2, fun w H2 s2 r2 => ⟨γ, S0, S, z, (E.same s1).same s2, e4, fun u H3 s3 r3 => ⟨by show 3 ≤ sizeLine; decide, fun p hp => ?_⟩⟩⟩⟩
  have s23 := s2.trans s3
  have s13 := s1.trans s23
  exact q _ _ (s13.trans (same_new hp)) (rp_newT (E.same s13).dT hp ⟨v, [w, u], rfl, Rp.mv (.same s23) _ v r1, w, [u], rfl, Rp.mv (.same s3) _ w r2, .one r3⟩)
theorem pv_tup4 {x1} (ha : PV X sl .a a fa) (hb : PV X sl .a b fb) (hc : PV X sl .a c fc) (hd : PV X sl .a d fd) (h1 : starEach [a, b, c, d] X.env = (false, eval a X.env) :: starEach [b, c, d] X.env := by rfl) (h2 : starEach [b, c, d] X.env = (false, eval b X.env) :: starEach [c, d] X.env := by rfl) (h3 : starEach [c, d] X.env = (false, eval c X.env) :: starEach [d] X.env := by rfl) (h4 : starEach [d] X.env = (false, eval d X.env) :: starEach [] X.env := by rfl) :
    PV X sl .a (.Tuple [a, b, c, d] x1 pos) (fun s => (fa s).bind fun x => (fb s).bind fun y => (fc s).bind fun z => (fd s).bind fun w => some (T4.mk x y z w)) := PE.imp (pe_tup (pa_cons ha (pa_cons hb (pa_cons hc (pa_cons hd pa_nil h4) h3) h2) h1)) fun σ H Q ⟨γ, S0, S, t, E, hf, q⟩ => by
  obtain ⟨x, y, e1, e2, e3⟩ := bind2 hf
  obtain ⟨z, z', e4, e5, e6⟩ := bind2 e3
  cases e6
  refine ⟨γ, S0, S, x, E, e1, fun v H1 s1 r1 => ⟨γ, S0, S, y, E.same s1, e2, fun w H2 s2 r2 => ⟨γ, S0, S, z, (E.same s1).same s2, e4, fun u H3 s3 r3 => ⟨γ, S0, S, z', ((E.same s1).same s2).same s3, e5, fun u' H4 s4 r4 => ⟨by show 4 ≤ sizeLine; decide, fun p hp => ?_⟩⟩⟩⟩⟩
  have s34 := s3.trans s4
  have s24 := s2.trans s34
  have s14 := s1.trans s24
  exact q _ _ (s14.trans (same_new hp)) (rp_newT (E.same s14).dT hp ⟨v, [w, u, u'], rfl, Rp.mv (.same s24) _ v r1, w, [u, u'], rfl, Rp.mv (.same s34) _ w r2, u, [u'], rfl, Rp.mv (.same s4) _ u r3, .one r4⟩)
end

/-! ### in -/
section
variable [Enc τ] [DecidableEq τ] [EqT τ]
def dIn (x : τ) (ys : List τ) : Option Bool := if EqT.ok x = true ∧ EqT.ok ys = true then some (decide (x ∈ ys)) else none
def dNin (x : τ) (ys : List τ) : Option Bool := if EqT.ok x = true ∧ EqT.ok ys = true then some (!decide (x ∈ ys)) else none
theorem any_in (x : τ) : ∀ ys : List τ, ((ys.map enc).any fun z => PyData.eqv z (enc x)) = decide (x ∈ ys)
  | [] => by simp
  | y :: ys => by
    rw [List.map_cons, List.any_cons, EqT.eqv, any_in x ys]
    by_cases h : x = y
    · subst h; simp
    · simp [h, Ne.symm h]
theorem dp_list {K : PySem.W.Frag} {H : Hp} {T : Ad} {t : List τ} {v : V} (h : Rb K H T (enc t) v) (ho : EqT.ok t = true) : Dp K H v (.list (t.map enc)) := h.dp (PyData.hasDict_of_canLay _ (EqT.can t ho))
def c_in (hu : X.A.units + 65 < cLine) (hd : EqT.dep τ + 1 ≤ 64 := by decide) : Cmp X .In τ (List τ) (fun x y => dIn x y) := ⟨_, op_inD hu, fun T H x y u w t Q hT r1 r2 e q => by
  obtain ⟨⟨h1, h2⟩, rfl⟩ := if_some e
  refine ⟨enc u, w.map enc, r1.dp (PyData.hasDict_of_canLay _ (EqT.can u h1)), dp_list r2 h2, shaped_of h1 (by omega), shaped_of (τ := List τ) h2 hd, q _ H (Same.refl H) ?_⟩
  rw [any_in]; rfl⟩
def c_nin (hu : X.A.units + 65 < cLine) (hd : EqT.dep τ + 1 ≤ 64 := by decide) : Cmp X .NotIn τ (List τ) (fun x y => dNin x y) := ⟨_, op_notInD hu, fun T H x y u w t Q hT r1 r2 e q => by
  obtain ⟨⟨h1, h2⟩, rfl⟩ := if_some e
  refine ⟨enc u, w.map enc, r1.dp (PyData.hasDict_of_canLay _ (EqT.can u h1)), dp_list r2 h2, shaped_of h1 (by omega), shaped_of (τ := List τ) h2 hd, q _ H (Same.refl H) ?_⟩
  rw [any_in]; rfl⟩
end

theorem rpa_ints {K : PySem.W.Frag} {H : Hp} {T : Ad} : ∀ xs : List Int, RpA K H T (xs.map enc) (xs.map V.int)
  | [] => rfl
  | x :: xs => ⟨.int x, _, rfl, rfl, rpa_ints xs⟩
/-! ### known functions of ints -/
section
variable {p : Pos} {fa fb : Γ → Option Int}
theorem star1 (h : starEach [a] X.env = [(false, eval a X.env)]) : starEach [a] X.env = (false, eval a X.env) :: starEach [] X.env := h
theorem pv_abs (hg : Gl X "abs") (hm : X.mg "abs" = none) (ha : PV X sl .b a fa) (he : starEach [a] X.env = (false, eval a X.env) :: starEach [] X.env := by rfl) :
    PV X sl .a (.Call (.Name "abs" p) [a] [] pos) (fun s => (fa s).bind fun x => some (x.natAbs : Int)) :=
  pv_c1 (fun h => pe_callB call_abs hg hm (by decide +kernel) (pa_cons h pa_nil he) (he := he)) (fun T H x u t Q hT r e q => by
    cases e
    exact ⟨u, by rw [rb_i r], q _ H (Same.refl H) (by show V.int _ = V.int _; congr 1; split <;> omega)⟩) ha
theorem pv_int1 (hg : Gl X "int") (hm : X.mg "int" = none) (ha : PV X sl .b a fa) (he : starEach [a] X.env = (false, eval a X.env) :: starEach [] X.env := by rfl) :
    PV X sl .a (.Call (.Name "int" p) [a] [] pos) (fun s => (fa s).bind fun x => some x) :=
  pv_c1 (fun h => pe_callTy call_int1 hg hm (by decide +kernel) (pa_cons h pa_nil he) (he := he)) (fun T H x u t Q hT r e q => by
    cases e
    exact .inl ⟨u, by rw [rb_i r], q _ H (Same.refl H) rfl⟩) ha
theorem pv_intB {fa : Γ → Option Bool} (hg : Gl X "int") (hm : X.mg "int" = none) (ha : PV X sl .b a fa) (he : starEach [a] X.env = (false, eval a X.env) :: starEach [] X.env := by rfl) :
    PV X sl .a (.Call (.Name "int" p) [a] [] pos) (fun s => (fa s).bind fun x => some (if x = true then (1 : Int) else 0)) :=
  pv_c1 (fun h => pe_callTy call_int1 hg hm (by decide +kernel) (pa_cons h pa_nil he) (he := he)) (fun T H x u t Q hT r e q => by
    cases e
    exact .inr ⟨u, by rw [rb_bool r], q _ H (Same.refl H) rfl⟩) ha
theorem pv_min2 (hg : Gl X "min") (hm : X.mg "min" = none) (ha : PV X sl .b a fa) (hb : PV X sl .b b fb) (he : starEach [a, b] X.env = (false, eval a X.env) :: starEach [b] X.env := by rfl) (he2 : starEach [b] X.env = (false, eval b X.env) :: starEach [] X.env := by rfl) (hpl : (backTo pos (starEach [b] X.env)).any (·.1) = false := by rfl) (hc : X.calm = true := by rfl) :
    PV X sl .a (.Call (.Name "min" p) [a, b] [] pos) (fun s => (fa s).bind fun x => (fb s).bind fun y => some (min x y)) :=
  pv_c2 (fun h1 h2 => pe_callB (call_min2 hc) hg hm (by decide +kernel) (pa_cons h1 (pa_cons h2 pa_nil he2) he) (he := he) (hpl := hpl)) (fun T H x y u w t Q hT r1 r2 e q => by
    cases e
    exact ⟨u, w, by rw [rb_i r1, rb_i r2], q _ H (Same.refl H) (by show V.int _ = V.int _; congr 1; split <;> omega)⟩) ha hb
theorem pv_max2 (hg : Gl X "max") (hm : X.mg "max" = none) (ha : PV X sl .b a fa) (hb : PV X sl .b b fb) (he : starEach [a, b] X.env = (false, eval a X.env) :: starEach [b] X.env := by rfl) (he2 : starEach [b] X.env = (false, eval b X.env) :: starEach [] X.env := by rfl) (hpl : (backTo pos (starEach [b] X.env)).any (·.1) = false := by rfl) (hc : X.calm = true := by rfl) :
    PV X sl .a (.Call (.Name "max" p) [a, b] [] pos) (fun s => (fa s).bind fun x => (fb s).bind fun y => some (max x y)) :=
  pv_c2 (fun h1 h2 => pe_callB (call_max2 hc) hg hm (by decide +kernel) (pa_cons h1 (pa_cons h2 pa_nil he2) he) (he := he) (hpl := hpl)) (fun T H x y u w t Q hT r1 r2 e q => by
    cases e
    exact ⟨u, w, by rw [rb_i r1, rb_i r2], q _ H (Same.refl H) (by show V.int _ = V.int _; congr 1; split <;> omega)⟩) ha hb
theorem pv_sum {fa : Γ → Option (List Int)} (hg : Gl X "sum") (hm : X.mg "sum" = none) (ha : PV X sl .b a fa) (he : starEach [a] X.env = (false, eval a X.env) :: starEach [] X.env := by rfl) (hc : X.calm = true := by rfl) :
    PV X sl .a (.Call (.Name "sum" p) [a] [] pos) (fun s => (fa s).bind fun x => some x.sum) :=
  pv_c1 (fun h => pe_callB (cr_sum hc) hg hm (by decide +kernel) (pa_cons h pa_nil he) (he := he)) (fun T H x u t Q hT r e q => by
    cases e
    obtain ⟨p, xs, rfl, h1, h2⟩ := rb_l r
    rw [rpa_int h2] at h1
    exact ⟨p, u, rfl, h1, q _ H (Same.refl H) rfl⟩) ha
theorem pv_any {fa : Γ → Option (List Bool)} (hg : Gl X "any") (hm : X.mg "any" = none) (ha : PV X sl .b a fa) (he : starEach [a] X.env = (false, eval a X.env) :: starEach [] X.env := by rfl) (hc : X.calm = true := by rfl) :
    PV X sl .a (.Call (.Name "any" p) [a] [] pos) (fun s => (fa s).bind fun x => some (x.any id)) :=
  pv_c1 (fun h => pe_callB (cr_any hc) hg hm (by decide +kernel) (pa_cons h pa_nil he) (he := he)) (fun T H x u t Q hT r e q => by
    cases e
    obtain ⟨p, xs, rfl, h1, h2⟩ := rb_l r
    rw [rpa_bool h2] at h1
    exact ⟨p, u, rfl, h1, q _ H (Same.refl H) rfl⟩) ha
theorem pv_all {fa : Γ → Option (List Bool)} (hg : Gl X "all") (hm : X.mg "all" = none) (ha : PV X sl .b a fa) (he : starEach [a] X.env = (false, eval a X.env) :: starEach [] X.env := by rfl) (hc : X.calm = true := by rfl) :
    PV X sl .a (.Call (.Name "all" p) [a] [] pos) (fun s => (fa s).bind fun x => some (x.all id)) :=
  pv_c1 (fun h => pe_callB (cr_all hc) hg hm (by decide +kernel) (pa_cons h pa_nil he) (he := he)) (fun T H x u t Q hT r e q => by
    cases e
    obtain ⟨p, xs, rfl, h1, h2⟩ := rb_l r
    rw [rpa_bool h2] at h1
    exact ⟨p, u, rfl, h1, q _ H (Same.refl H) rfl⟩) ha
/-- the least, the greatest of a list that is not empty -/
def least (x : List Int) : Option Int := match x with
  | [] => none
  | y :: ys => some (ys.foldl min y)
def most (x : List Int) : Option Int := match x with
  | [] => none
  | y :: ys => some (ys.foldl max y)
theorem foldl_min : ∀ (ys : List Int) (y m : Int), m ∈ y :: ys → (∀ z, z ∈ y :: ys → m ≤ z) → ys.foldl min y = m
  | [], y, m, h1, h2 => by simp at h1; simp [h1]
  | z :: ys, y, m, h1, h2 => by
    rw [List.foldl_cons]
    have hy := h2 y List.mem_cons_self
    have hz := h2 z (List.mem_cons_of_mem _ List.mem_cons_self)
    refine foldl_min ys (min y z) m ?_ fun w hw => ?_
    · rcases List.mem_cons.mp h1 with rfl | h1
      · rw [show min m z = m by omega]; exact List.mem_cons_self
      · rcases List.mem_cons.mp h1 with rfl | h1
        · rw [show min y m = m by omega]; exact List.mem_cons_self
        · exact List.mem_cons_of_mem _ h1
    · rcases List.mem_cons.mp hw with rfl | hw
      · omega
      · exact h2 w (List.mem_cons_of_mem _ (List.mem_cons_of_mem _ hw))
theorem foldl_max : ∀ (ys : List Int) (y m : Int), m ∈ y :: ys → (∀ z, z ∈ y :: ys → z ≤ m) → ys.foldl max y = m
  | [], y, m, h1, h2 => by simp at h1; simp [h1]
  | z :: ys, y, m, h1, h2 => by
    rw [List.foldl_cons]
    have hy := h2 y List.mem_cons_self
    have hz := h2 z (List.mem_cons_of_mem _ List.mem_cons_self)
    refine foldl_max ys (max y z) m ?_ fun w hw => ?_
    · rcases List.mem_cons.mp h1 with rfl | h1
      · rw [show max m z = m by omega]; exact List.mem_cons_self
      · rcases List.mem_cons.mp h1 with rfl | h1
        · rw [show max y m = m by omega]; exact List.mem_cons_self
        · exact List.mem_cons_of_mem _ h1
    · rcases List.mem_cons.mp hw with rfl | hw
      · omega
      · exact h2 w (List.mem_cons_of_mem _ (List.mem_cons_of_mem _ hw))
theorem pv_min1 {fa : Γ → Option (List Int)} (hg : Gl X "min") (hm : X.mg "min" = none) (ha : PV X sl .b a fa) (he : starEach [a] X.env = (false, eval a X.env) :: starEach [] X.env := by rfl) (hc : X.calm = true := by rfl) :
    PV X sl .a (.Call (.Name "min" p) [a] [] pos) (fun s => (fa s).bind fun x => least x) :=
  pv_c1 (fun h => pe_callB (cr_min hc) hg hm (by decide +kernel) (pa_cons h pa_nil he) (he := he)) (fun T H x u t Q hT r e q => by
    obtain ⟨p, xs, rfl, h1, h2⟩ := rb_l r
    rw [rpa_int h2] at h1
    cases u with
    | nil => cases e
    | cons y ys =>
      cases e
      exact ⟨p, _, rfl, h1, by simp, fun m hm hle => q _ H (Same.refl H) (by rw [foldl_min ys y m hm hle]; rfl)⟩) ha
theorem pv_max1 {fa : Γ → Option (List Int)} (hg : Gl X "max") (hm : X.mg "max" = none) (ha : PV X sl .b a fa) (he : starEach [a] X.env = (false, eval a X.env) :: starEach [] X.env := by rfl) (hc : X.calm = true := by rfl) :
    PV X sl .a (.Call (.Name "max" p) [a] [] pos) (fun s => (fa s).bind fun x => most x) :=
  pv_c1 (fun h => pe_callB (cr_max hc) hg hm (by decide +kernel) (pa_cons h pa_nil he) (he := he)) (fun T H x u t Q hT r e q => by
    obtain ⟨p, xs, rfl, h1, h2⟩ := rb_l r
    rw [rpa_int h2] at h1
    cases u with
    | nil => cases e
    | cons y ys =>
      cases e
      exact ⟨p, _, rfl, h1, by simp, fun m hm hle => q _ H (Same.refl H) (by rw [foldl_max ys y m hm hle]; rfl)⟩) ha
theorem pv_list [Enc τ] {fa : Γ → Option (List τ)} (hg : Gl X "list") (hm : X.mg "list" = none) (ha : PV X sl .b a fa) (he : starEach [a] X.env = (false, eval a X.env) :: starEach [] X.env := by rfl) :
    PV X sl .f (.Call (.Name "list" p) [a] [] pos) (fun s => (fa s).bind fun x => some x) :=
  pv_c1 (fun h => pe_callTy call_list_of hg hm (by decide +kernel) (pa_cons h pa_nil he) (he := he)) (fun T H x u t Q hT r e q => by
    cases e
    obtain ⟨p, xs, rfl, h1, h2⟩ := rb_l r
    exact ⟨p, xs, rfl, .inl h1, fun l hl => q _ _ (same_new hl) (fr_new hT hl h2)⟩) ha
theorem pv_lenS {fa : Γ → Option Tx} (hg : Gl X "len") (hm : X.mg "len" = none) (ha : PV X sl .b a fa) (he : starEach [a] X.env = (false, eval a X.env) :: starEach [] X.env := by rfl) :
    PV X sl .a (.Call (.Name "len" p) [a] [] pos) (fun s => (fa s).bind fun x => if x.cs.length ≤ sizeLine then some (x.cs.length : Int) else none) :=
  pv_c1 (fun h => pe_callB call_len_str hg hm PySem.boot_len (pa_cons h pa_nil he) (he := he)) (fun T H x u t Q hT r e q => by
    obtain ⟨hz, rfl⟩ := if_some e
    exact ⟨⟨u.cs.toArray⟩, by rw [rb_t r], hz, q _ H (Same.refl H) rfl⟩) ha
/-- sorted, ints -/
def srt (x : List Int) : List Int := x.mergeSort (fun a b => decide (a ≤ b))
theorem srt_uniq {xs ys : List Int} (p : ys.Perm xs) (s : ys.Pairwise (· ≤ ·)) : ys = srt xs := by
  have p2 : (srt xs).Perm xs := List.mergeSort_perm _ _
  have s2 : (srt xs).Pairwise (· ≤ ·) := by
    have h := List.pairwise_mergeSort (le := fun a b : Int => decide (a ≤ b)) (by intro a b c h1 h2; simp at *; omega) (by intro a b; simp; omega) xs
    exact h.imp (by intro a b h; simpa using h)
  exact (p.trans p2.symm).eq_of_pairwise (fun a b _ _ h1 h2 => by omega) s s2
theorem pv_sorted {fa : Γ → Option (List Int)} (hg : Gl X "sorted") (hm : X.mg "sorted" = none) (ha : PV X sl .b a fa) (he : starEach [a] X.env = (false, eval a X.env) :: starEach [] X.env := by rfl) :
    PV X sl .f (.Call (.Name "sorted" p) [a] [] pos) (fun s => (fa s).bind fun x => some (srt x)) :=
  pv_c1 (fun h => pe_callB cr_sortedI hg hm (by decide +kernel) (pa_cons h pa_nil he) (he := he)) (fun T H x u t Q hT r e q => by
    cases e
    obtain ⟨p, xs, rfl, h1, h2⟩ := rb_l r
    have e2 := rpa_int h2
    rw [e2] at h1
    refine ⟨p, u, rfl, h1, fun ns' l hp hs hl => ?_⟩
    rw [srt_uniq hp hs]
    refine q _ _ (same_new hl) (fr_new hT hl ?_)
    exact rpa_ints _) ha
theorem pv_gcd (hg : Gl X "gcd") {u : Value} (hm : X.mg "gcd" = some (.builtin "math.gcd")) (ha : PV X sl .b a fa) (hb : PV X sl .b b fb) (h : ∀ {ta tb : TE}, PE X a ta → PE X b tb → PE X (.Call (.Name "gcd" p) [a, b] [] pos) (tCB (rGcd) (tCons ta (tCons tb tNil)))) :
    PV X sl .a (.Call (.Name "gcd" p) [a, b] [] pos) (fun s => (fa s).bind fun x => (fb s).bind fun y => some ((Nat.gcd x.natAbs y.natAbs : Nat) : Int)) :=
  pv_c2 h (fun T H x y u w t Q hT r1 r2 e q => by
    cases e
    exact ⟨u, w, by rw [rb_i r1, rb_i r2], q _ H (Same.refl H) rfl⟩) ha hb
end
end PL

/-! PL6: statements. -/
namespace PL
open PySem PySem.Spec L2
open Enc (enc)

inductive Out (Γ ρ : Type) where
  | nx (g : Γ)
  | rt (r : ρ)
  deriving DecidableEq
variable {Γ Γ' Γ'' Γb ρ τ α β γ' δ : Type} {X : Cx} {sl : Γ → Sl} {sl' : Γ' → Sl} {sl'' : Γ'' → Sl} {e a b c d : Expr} {es : List Expr} {k k1 k2 k3 : Kd} {pos : Pos}

/-- what a def hands back; H, S: ahead of the code -/
def FrR (K : PySem.W.Frag) (S0 S : Ad) (H H' : Hp) (d : PyData) (v : V) : Prop :=
  ∃ p, v = .ref p ∧ (H p ≠ none → S p) ∧ ¬ S0 p ∧ ((∃ ds xs, d = .list ds ∧ H' p = some (.lst xs) ∧ RpA K H' (wi S0 p) ds xs) ∨ ∃ kvs es, d = .dict kvs ∧ H' p = some (.dK es) ∧ RpK K H' (wi S0 p) kvs es)
def RetV (kr : Kd) (K : PySem.W.Frag) (S0 S : Ad) (H H' : Hp) (d : PyData) (v : V) : Prop :=
  Mv S H no H' ∧ match kr with
  | .f => FrR K S0 S H H' d v
  | _ => Rp K H' S0 d v
theorem Mv.no {S S' : Ad} {H H' : Hp} (m : Mv S H S' H') : Mv S H no H' := fun a o h n => ⟨(m a o h n).1, fun z => z⟩
theorem Mv.no_trans {S S' : Ad} {H H' H'' : Hp} (m : Mv S H S' H') (m' : Mv S' H' PL.no H'') : Mv S H PL.no H'' := m.trans m'
theorem RetV.back {kr : Kd} {K : PySem.W.Frag} {S0 S S' : Ad} {H H' H'' : Hp} {d : PyData} {v : V} (m : Mv S H S' H') (r : RetV kr K S0 S' H' H'' d v) : RetV kr K S0 S H H'' d v := by
  refine ⟨m.no_trans r.1, ?_⟩
  have r2 := r.2
  cases kr with
  | a => exact r2
  | b => exact r2
  | f =>
    obtain ⟨p, e, h1, h2, h3⟩ := r2
    refine ⟨p, e, fun hp => ?_, h2, h3⟩
    cases hq : H p with
    | none => exact absurd hq hp
    | some o =>
      by_cases hs : S p
      · exact hs
      · obtain ⟨e1, e2⟩ := m p o hq hs
        exact absurd (h1 (by rw [e1]; simp)) e2

section
variable [Enc ρ]
def Post (K : PySem.W.Frag) (S0 S : Ad) (H : Hp) (sl' : Γ' → Sl) (kr : Kd) (D : Ends) : Out Γ' ρ → Prop
  | .nx g => ∀ σ' H' S', EnvS K S0 S' H' (sl' g) σ' → Mv S H S' H' → D.nx σ' H'
  | .rt r => ∀ v H', RetV kr K S0 S H H' (enc r) v → D.rt v H'
def tS (K : PySem.W.Frag) (sl : Γ → Sl) (sl' : Γ' → Sl) (kr : Kd) (f : Γ → Option (Out Γ' ρ)) : TS := fun D σ H =>
  ∃ (g : Γ) (S0 S : Ad) (o : Out Γ' ρ), EnvS K S0 S H (sl g) σ ∧ f g = some o ∧ Post K S0 S H sl' kr D o
def SV (X : Cx) (sl : Γ → Sl) (sl' : Γ' → Sl) (kr : Kd) (st : Stmt) (f : Γ → Option (Out Γ' ρ)) : Prop := PS X st (tS X.K sl sl' kr f)
def BV (X : Cx) (sl : Γ → Sl) (sl' : Γ' → Sl) (kr : Kd) (st : List Stmt) (f : Γ → Option (Out Γ' ρ)) : Prop := PSs X st (tS X.K sl sl' kr f)
def seqO (x : Option (Out Γ ρ)) (g : Γ → Option (Out Γ' ρ)) : Option (Out Γ' ρ) := x.bind fun o => match o with
  | .nx s => g s
  | .rt r => some (.rt r)
theorem Post.back {K : PySem.W.Frag} {S0 S S' : Ad} {H H' : Hp} {sl' : Γ' → Sl} {kr : Kd} {D : Ends} {o : Out Γ' ρ} (m : Mv S H S' H') (p : Post K S0 S H sl' kr D o) : Post K S0 S' H' sl' kr D o := by
  cases o with
  | nx g => exact fun σ' H'' S'' E m' => p σ' H'' S'' E (m.trans m')
  | rt r => exact fun v H'' q => p v H'' (q.back m)

/-! ### weakening -/
inductive Wk : Sl → Sl → Prop
  | nil : Wk [] []
  | s {x : Option (Mo × PyData)} {l l' : Sl} : Wk l l' → Wk (x :: l) (x :: l')
  | d {x : Option (Mo × PyData)} {l l' : Sl} : Wk l l' → Wk (x :: l) (none :: l')
  | sh {x : PyData} {l l' : Sl} : Wk l l' → Wk (some (.o, x) :: l) (some (.a, x) :: l')
theorem Wk.len {l l' : Sl} (w : Wk l l') : l'.length = l.length := by
  induction w with
  | nil => rfl
  | s _ ih => simp [ih]
  | d _ ih => simp [ih]
  | sh _ ih => simp [ih]
theorem Wk.at_ {l l' : Sl} (w : Wk l l') : ∀ {i : Nat} {m : Mo} {x : PyData}, l'[i]? = some (some (m, x)) → l[i]? = some (some (m, x)) ∨ (m = .a ∧ l[i]? = some (some (.o, x))) := by
  induction w with
  | nil => intro i m x h; simp at h
  | s _ ih =>
    intro i m x h
    cases i with
    | zero => exact .inl h
    | succ i => exact ih h
  | d _ ih =>
    intro i m x h
    cases i with
    | zero => simp at h
    | succ i => exact ih h
  | sh _ ih =>
    intro i m x h
    cases i with
    | zero =>
      have h : some (some (Mo.a, _)) = some (some (m, x)) := h
      cases h
      exact .inr ⟨rfl, rfl⟩
    | succ i => exact ih h
theorem Wk.refl : ∀ l : Sl, Wk l l
  | [] => .nil
  | _ :: l => .s (Wk.refl l)
theorem EnvS.wk {K : PySem.W.Frag} {S0 S : Ad} {H : Hp} {l l' : Sl} {σ : L2.St} (E : EnvS K S0 S H l σ) (w : Wk l l') : ∃ S', Mv S H S' H ∧ EnvS K S0 S' H l' σ := by
  refine ⟨fun a => S a ∧ ¬ ∃ (i : Nat) (d : PyData), l'[i]? = some (some (.a, d)) ∧ l[i]? = some (some (.o, d)) ∧ σ[i]? = some (some (.ref a)), .less fun a h => h.1, ?_⟩
  refine ⟨w.len.trans E.len, fun a h => E.dS a h.1, E.d0, fun a h => E.ap a h.1, fun i m d h => ?_, fun i j d e v hij hi hj hv => ?_⟩
  · have m0 : Mv S H (fun a => S a ∧ ¬ ∃ (i : Nat) (d : PyData), l'[i]? = some (some (.a, d)) ∧ l[i]? = some (some (.o, d)) ∧ σ[i]? = some (some (.ref a))) H := .less fun a h => h.1
    rcases w.at_ h with h1 | ⟨rfl, h1⟩
    · obtain ⟨v, hv, q⟩ := E.at_ i m d h1
      refine ⟨v, hv, ?_⟩
      cases m with
      | a => exact Rp.mv m0.un _ _ q
      | b => exact Rbs.mv m0 q
      | o =>
        obtain ⟨a, rfl, h2, h3⟩ := q
        refine ⟨a, rfl, ⟨h2, ?_⟩, ?_⟩
        · rintro ⟨j, d', e1, e2, e3⟩
          by_cases hij : i = j
          · subst hij
            rw [h] at e1
            cases e1
          · exact E.one i j d d' _ hij h1 e2 hv e3
        · rcases h3 with ⟨ds, xs, e1, e2, e3⟩ | ⟨ds, xs, e1, e2, e3⟩
          · exact .inl ⟨ds, xs, e1, e2, e3.mv m0.un⟩
          · exact .inr ⟨ds, xs, e1, e2, e3.mv m0.un⟩
    · obtain ⟨v, hv, a, rfl, h2, h3⟩ := E.at_ i _ d h1
      refine ⟨_, hv, ?_⟩
      have n1 : ¬ un (fun a => S a ∧ ¬ ∃ (i : Nat) (d : PyData), l'[i]? = some (some (.a, d)) ∧ l[i]? = some (some (.o, d)) ∧ σ[i]? = some (some (.ref a))) S0 a := by
        rintro (z | z)
        · exact z.2 ⟨i, d, h, h1, hv⟩
        · exact E.ap a h2 z
      rcases h3 with ⟨ds, xs, rfl, e2, e3⟩ | ⟨ds, xs, rfl, e2, e3⟩
      · exact ⟨a, xs, rfl, .inl ⟨.inl e2, n1⟩, e3.mv m0.un⟩
      · exact ⟨a, xs, rfl, ⟨.inl e2, n1⟩, e3.mv m0.un⟩
  · have oo : ∀ {i : Nat} {d : PyData}, l'[i]? = some (some (.o, d)) → l[i]? = some (some (.o, d)) := fun h => by
      rcases w.at_ h with h1 | ⟨e, _⟩
      · exact h1
      · cases e
    exact E.one i j d e v hij (oo hi) (oo hj) hv

/-! ### blocks -/
variable {kr : Kd} {st : Stmt} {sts sts2 : List Stmt}
theorem bv_nil {h : Γ → Γ'} (w : ∀ g, Wk (sl g) (sl' (h g))) : BV (ρ := ρ) X sl sl' kr [] (fun g => some (.nx (h g))) := PSs.imp pss_nil fun D σ H ⟨g, S0, S, o, E, hf, p⟩ => by
  cases hf
  obtain ⟨S', m, E'⟩ := E.wk (w g)
  exact p σ H S' E' m
theorem bv_wk {h : Γ → Γ''} {f : Γ'' → Option (Out Γ' ρ)} (w : ∀ g, Wk (sl g) (sl'' (h g))) (hb : BV X sl'' sl' kr sts f) : BV X sl sl' kr sts (fun g => f (h g)) := PSs.imp hb fun D σ H ⟨g, S0, S, o, E, hf, p⟩ => by
  obtain ⟨S', m, E'⟩ := E.wk (w g)
  exact ⟨h g, S0, S', o, E', hf, p.back m⟩
theorem bv_cons {f : Γ → Option (Out Γ'' ρ)} {g : Γ'' → Option (Out Γ' ρ)} (h1 : SV X sl sl'' kr st f) (h2 : BV X sl'' sl' kr sts g) : BV X sl sl' kr (st :: sts) (fun s => seqO (f s) g) := PSs.imp (pss_cons h1 h2) fun D σ H ⟨γ, S0, S, o, E, hf, p⟩ => by
  obtain ⟨o1, e1, e2⟩ := bind1 hf
  refine ⟨γ, S0, S, o1, E, e1, ?_⟩
  cases o1 with
  | nx g1 => exact fun σ' H' S' E' m => ⟨g1, S0, S', o, E', e2, p.back m⟩
  | rt r =>
    cases e2
    exact p
theorem BV.eq {f f' : Γ → Option (Out Γ' ρ)} (h : BV X sl sl' kr sts f) (h' : f' = f) : BV X sl sl' kr sts f' := h' ▸ h

/-! ### assignments -/
theorem set_get {l : List α} {i j : Nat} {x y : α} (h : (l.set i x)[j]? = some y) : (i = j ∧ x = y ∧ j < l.length) ∨ (i ≠ j ∧ l[j]? = some y) := by
  by_cases hij : i = j
  · subst hij
    by_cases hl : i < l.length
    · rw [List.getElem?_set_self hl] at h
      exact .inl ⟨rfl, Option.some.inj h, hl⟩
    · rw [List.getElem?_eq_none (by simpa using hl)] at h
      cases h
  · rw [List.getElem?_set_ne hij] at h
    exact .inr ⟨hij, h⟩
theorem EnvS.seta {K : PySem.W.Frag} {S0 S : Ad} {H : Hp} {l : Sl} {σ : L2.St} {i : Nat} {d : PyData} {v : V} (E : EnvS K S0 S H l σ) (r : Rp K H (un S S0) d v) : EnvS K S0 S H (l.set i (some (.a, d))) (σ.set i (some v)) := by
  refine ⟨by simp [E.len], E.dS, E.d0, E.ap, fun j m e h => ?_, fun j j' e e' w hij hj hj' hv => ?_⟩
  · rcases set_get h with ⟨rfl, e1, hl⟩ | ⟨hne, h⟩
    · cases e1
      exact ⟨v, by rw [List.getElem?_set_self (by rw [← E.len]; exact hl)], r⟩
    · obtain ⟨w, h1, h2⟩ := E.at_ j m e h
      exact ⟨w, by rw [List.getElem?_set_ne hne]; exact h1, h2⟩
  · rcases set_get hj with ⟨_, e1, _⟩ | ⟨hne, hj⟩
    · cases e1
    · rcases set_get hj' with ⟨_, e1, _⟩ | ⟨hne', hj'⟩
      · cases e1
      · rw [List.getElem?_set_ne hne] at hv
        rw [List.getElem?_set_ne hne']
        exact E.one j j' e e' w hij hj hj' hv
/-- a new object is owned -/
theorem EnvS.seto' {K : PySem.W.Frag} {S0 S : Ad} {H H' : Hp} {l : Sl} {σ : L2.St} {i : Nat} {d : PyData} {v : V} (E : EnvS K S0 S H l σ) (s : Same H H') (r : Fr K H H' (un S S0) d v) : ∃ p, v = .ref p ∧ Mv S H (wi S p) H' ∧ EnvS K S0 (wi S p) H' (l.set i (some (.o, d))) (σ.set i (some v)) := by
  obtain ⟨p, rfl, hp, r⟩ := r
  have nS : ¬ S p := fun z => E.dS p z hp
  have n0 : ¬ S0 p := fun z => E.d0 p z hp
  have hp' : H' p ≠ none := by
    rcases r with ⟨_, _, _, e, _⟩ | ⟨_, _, _, e, _⟩ <;> rw [e] <;> simp
  have mv : Mv S H (wi S p) H' := fun a o h n => ⟨s a o h, fun z => z.elim n (ne_of_none h hp)⟩
  have hun : ∀ a, un (wi S p) S0 a → wi (un S S0) p a := fun a z => by
    rcases z with (z | z) | z
    · exact .inl (.inl z)
    · exact .inr z
    · exact .inl (.inr z)
  refine ⟨p, rfl, mv, by simp [E.len], fun a h => ?_, fun a h => nn_same s (E.d0 a h), fun a h => ?_, fun j m e h => ?_, fun j j' e e' w hij hj hj' hv => ?_⟩
  · rcases h with h | rfl
    · exact nn_same s (E.dS a h)
    · exact hp'
  · rcases h with h | rfl
    · exact E.ap a h
    · exact n0
  · rcases set_get h with ⟨rfl, e1, hl⟩ | ⟨hne, h⟩
    · cases e1
      refine ⟨_, by rw [List.getElem?_set_self (by rw [← E.len]; exact hl)], p, rfl, .inr rfl, ?_⟩
      rcases r with ⟨ds, xs, e1, e2, e3⟩ | ⟨ds, xs, e1, e2, e3⟩
      · exact .inl ⟨ds, xs, e1, e2, e3.mv (.less hun)⟩
      · exact .inr ⟨ds, xs, e1, e2, e3.mv (.less hun)⟩
    · obtain ⟨w, h1, h2⟩ := E.at_ j m e h
      refine ⟨w, by rw [List.getElem?_set_ne hne]; exact h1, ?_⟩
      cases m with
      | a => exact Rp.mv mv.un _ _ h2
      | b => exact Rbs.mv mv h2
      | o =>
        obtain ⟨a, rfl, h2, h3⟩ := h2
        refine ⟨a, rfl, .inl h2, ?_⟩
        rcases h3 with ⟨ds, xs, e1, e2, e3⟩ | ⟨ds, xs, e1, e2, e3⟩
        · exact .inl ⟨ds, xs, e1, s _ _ e2, e3.mv mv.un⟩
        · exact .inr ⟨ds, xs, e1, s _ _ e2, e3.mv mv.un⟩
  · have other : ∀ {k : Nat} {x : PyData} {u : V}, l[k]? = some (some (.o, x)) → σ[k]? = some (some u) → u ≠ .ref p := fun {k x u} h1 h2 e => by
      obtain ⟨w, h3, a, e1, h4, _⟩ := E.at_ k _ x h1
      rw [h2] at h3
      cases h3
      rw [e] at e1
      cases e1
      exact nS h4
    rcases set_get hj with ⟨rfl, e1, hl⟩ | ⟨hne, hj⟩
    · rcases set_get hj' with ⟨rfl, _, _⟩ | ⟨hne', hj'⟩
      · exact absurd rfl hij
      · rw [List.getElem?_set_self (by rw [← E.len]; exact hl)] at hv
        cases hv
        rw [List.getElem?_set_ne hne']
        exact fun q => other hj' q rfl
    · rw [List.getElem?_set_ne hne] at hv
      rcases set_get hj' with ⟨rfl, e1, hl⟩ | ⟨hne', hj'⟩
      · rw [List.getElem?_set_self (by rw [← E.len]; exact hl)]
        intro q
        cases q
        exact other hj hv rfl
      · rw [List.getElem?_set_ne hne']
        exact E.one j j' e e' w hij hj hj' hv
theorem EnvS.seto {K : PySem.W.Frag} {S0 S : Ad} {H H' : Hp} {l : Sl} {σ : L2.St} {i : Nat} {d : PyData} {v : V} (E : EnvS K S0 S H l σ) (s : Same H H') (r : Fr K H H' (un S S0) d v) : ∃ S', Mv S H S' H' ∧ EnvS K S0 S' H' (l.set i (some (.o, d))) (σ.set i (some v)) := by
  obtain ⟨p, _, h1, h2⟩ := E.seto' (i := i) s r
  exact ⟨_, h1, h2⟩
section
variable [Enc τ] {f : Γ → Option τ} {i : Nat} {x : Str} {p' : Pos}
theorem sv_set (set : Γ → τ → Γ') (h : ∀ g t, sl' (set g t) = (sl g).set i (some (.a, enc t))) (hN : X.N.Nodup) (he : PV X sl .a e f) (hi : X.N[i]? = some x := by rfl) (hx : Loc X.env.scope x := by first | exact .inl rfl | exact .inr rfl)
    (hs : swapsWith e (some (.Name x p')) pos.line X.env = pure false := by rfl) (hf : X.fn x = true ∨ X.env.scope.names.lookup x = some .local := by first | exact .inl rfl | exact .inr rfl) :
    SV (ρ := ρ) X sl sl' kr (.Assign [.Name x p'] e pos) (fun g => (f g).bind fun t => some (.nx (set g t))) := PS.imp (ps_set (i := i) hN hi hx he hs hf) fun D σ H ⟨γ, S0, S, o, E, hf, p⟩ => by
  obtain ⟨t, e1, e2⟩ := bind1 hf
  cases e2
  refine ⟨γ, S0, S, t, E, e1, fun v H' s r => ?_⟩
  refine p _ _ S ?_ (.same s)
  rw [h]
  exact (E.same s).seta r
theorem sv_own (set : Γ → τ → Γ') (h : ∀ g t, sl' (set g t) = (sl g).set i (some (.o, enc t))) (hN : X.N.Nodup) (he : PV X sl .f e f) (hi : X.N[i]? = some x := by rfl) (hx : Loc X.env.scope x := by first | exact .inl rfl | exact .inr rfl)
    (hs : swapsWith e (some (.Name x p')) pos.line X.env = pure false := by rfl) (hf : X.fn x = true ∨ X.env.scope.names.lookup x = some .local := by first | exact .inl rfl | exact .inr rfl) :
    SV (ρ := ρ) X sl sl' kr (.Assign [.Name x p'] e pos) (fun g => (f g).bind fun t => some (.nx (set g t))) := PS.imp (ps_set (i := i) hN hi hx he hs hf) fun D σ H ⟨γ, S0, S, o, E, hf, p⟩ => by
  obtain ⟨t, e1, e2⟩ := bind1 hf
  cases e2
  refine ⟨γ, S0, S, t, E, e1, fun v H' s r => ?_⟩
  obtain ⟨S', m, E'⟩ := E.seto (i := i) s r
  refine p _ _ S' ?_ m
  rw [h]
  exact E'
end
/-- an expression's value dropped -/
theorem sv_expr [Enc τ] {f : Γ → Option τ} (he : PV X sl k e f) (hs : swapsWith e none pos.line X.env = pure false := by rfl) : SV (ρ := ρ) X sl sl kr (.Expr e pos) (fun g => (f g).bind fun _ => some (.nx g)) := PS.imp (ps_expr he hs) fun D σ H ⟨γ, S0, S, o, E, hf, p⟩ => by
  obtain ⟨t, e1, e2⟩ := bind1 hf
  cases e2
  exact ⟨γ, S0, S, t, E, e1, fun v H' s r => p _ _ S (E.same s) (.same s)⟩
theorem sv_pass : SV (ρ := ρ) X sl sl kr (.Pass pos) (fun g => some (.nx g)) := PS.imp ps_pass fun D σ H ⟨γ, S0, S, o, E, hf, p⟩ => by
  cases hf
  exact p _ _ S E .refl
/-- code that is not come to -/
theorem sv_never : SV (ρ := ρ) X sl sl' kr st (fun _ => none) := PS.imp ps_never fun D σ H ⟨γ, S0, S, o, E, hf, p⟩ => by cases hf

/-! ### return -/
theorem sv_ret {f : Γ → Option ρ} (he : PV X sl .a e f) : SV (ρ := ρ) X sl sl' .a (.Return (some e) pos) (fun g => (f g).bind fun r => some (.rt r)) := PS.imp (ps_ret he) fun D σ H ⟨γ, S0, S, o, E, hf, p⟩ => by
  obtain ⟨t, e1, e2⟩ := bind1 hf
  cases e2
  exact ⟨γ, S0, S, t, E, e1, fun v H' s r => p v H' ⟨(Mv.same s).no, Rp.mv (.less fun a z => .inr z) _ _ r⟩⟩
theorem sv_retf {f : Γ → Option ρ} (he : PV X sl .f e f) : SV (ρ := ρ) X sl sl' .f (.Return (some e) pos) (fun g => (f g).bind fun r => some (.rt r)) := PS.imp (ps_ret he) fun D σ H ⟨γ, S0, S, o, E, hf, p⟩ => by
  obtain ⟨t, e1, e2⟩ := bind1 hf
  cases e2
  refine ⟨γ, S0, S, t, E, e1, fun v H' s r => p v H' ⟨(Mv.same s).no, ?_⟩⟩
  obtain ⟨q, rfl, hq, r⟩ := r
  have n0 : ¬ S0 q := fun z => E.d0 q z hq
  refine ⟨q, rfl, fun z => absurd hq z, n0, ?_⟩
  rcases r with ⟨ds, xs, e1, e2, e3⟩ | ⟨ds, xs, e1, e2, e3⟩
  · exact .inl ⟨ds, xs, e1, e2, e3.mv (.less fun a z => z.elim (fun z => .inl (.inr z)) .inr)⟩
  · exact .inr ⟨ds, xs, e1, e2, e3.mv (.less fun a z => z.elim (fun z => .inl (.inr z)) .inr)⟩
/-- an owned list handed back -/
theorem sv_reto {i : Nat} {x : Str} {p0 : Pos} (q : Γ → ρ) (h : ∀ g, (sl g)[i]? = some (some (.o, enc (q g)))) (hN : X.N[i]? = some x := by rfl)
    (hv : Vis X.env.scope x := by first | exact Or.inl rfl | exact Or.inr (Or.inl rfl) | exact Or.inr (Or.inr rfl)) (hd : (x == ("__debug__" : Str)) = false := by decide) (hcd : (x == ("__classdict__" : Str)) = false := by decide) :
    SV (ρ := ρ) X sl sl' .f (.Return (some (.Name x p0)) pos) (fun g => some (.rt (q g))) := PS.imp (ps_ret (pe_var (i := i) hN hv hd hcd)) fun D σ H ⟨γ, S0, S, o, E, hf, p⟩ => by
  cases hf
  obtain ⟨v, h1, a, rfl, h2, h3⟩ := E.at_ i _ _ (h γ)
  refine ⟨_, h1, p _ _ ⟨(Mv.refl (T := S)).no, a, rfl, fun _ => h2, E.ap a h2, ?_⟩⟩
  rcases h3 with ⟨ds, xs, e1, e2, e3⟩ | ⟨ds, xs, e1, e2, e3⟩
  · exact .inl ⟨ds, xs, e1, e2, e3.mv (.less fun b z => z.elim .inr fun z => .inl (z ▸ h2))⟩
  · exact .inr ⟨ds, xs, e1, e2, e3.mv (.less fun b z => z.elim .inr fun z => .inl (z ▸ h2))⟩

/-! ### if -/
theorem sv_if {c : Expr} {fc : Γ → Option Bool} {f g : Γ → Option (Out Γ' ρ)} (hc : PB X sl c fc) (ha : BV X sl sl' kr sts f) (hb : BV X sl sl' kr sts2 g) : SV X sl sl' kr (.If c sts sts2 pos) (fun s => (fc s).bind fun t => if t = true then f s else g s) :=
  PS.imp (ps_if hc ha hb) fun D σ H ⟨γ, S0, S, o, E, hf, p⟩ => by
    obtain ⟨t, e1, e2⟩ := bind1 hf
    refine ⟨γ, S0, S, t, E, e1, fun H' s => ?_⟩
    cases t with
    | true => exact ⟨γ, S0, S, o, E.same s, e2, p.back (.same s)⟩
    | false => exact ⟨γ, S0, S, o, E.same s, e2, p.back (.same s)⟩

/-! ### while -/
def whileO (c : Γ → Option Bool) (b : Γ → Option (Out Γ ρ)) : Nat → Γ → Option (Out Γ ρ)
  | 0, _ => none
  | n + 1, g => (c g).bind fun t => if t = true then seqO (b g) (whileO c b n) else some (.nx g)
theorem sv_while {c : Expr} (n : Nat) {fc : Γ → Option Bool} {f : Γ → Option (Out Γ ρ)} (hp : PassesOwn (model X.prog X.w) X.A X.env X.xe) (hc : PB X sl c fc) (hb : BV X sl sl kr sts f) : SV X sl sl kr (.While c sts [] pos) (whileO fc f n) :=
  PS.imp (ps_while hp hc hb) fun D σ H ⟨γ, S0, S, o, E, hf, p⟩ => by
    refine ⟨fun m σ1 H1 => ∃ g1 S1, EnvS X.K S0 S1 H1 (sl g1) σ1 ∧ whileO fc f m g1 = some o ∧ Post X.K S0 S1 H1 sl kr D o, ⟨n, γ, S, E, hf, p⟩, ?_⟩
    rintro m σ1 H1 ⟨g1, S1, E1, h1, p1⟩
    cases m with
    | zero => cases h1
    | succ m =>
      obtain ⟨t, e1, e2⟩ := bind1 h1
      refine ⟨g1, S0, S1, t, E1, e1, fun H2 s2 => ?_⟩
      have E2 := E1.same s2
      have p2 : Post X.K S0 S1 H2 sl kr D o := p1.back (.same s2)
      cases t with
      | false =>
        cases e2
        exact iteF (p2 σ1 H2 S1 E2 .refl)
      | true =>
        obtain ⟨o1, e3, e4⟩ := bind1 (show seqO (f g1) (whileO fc f m) = some o from e2)
        refine iteT ⟨fun σ' H' => ∃ g' S', EnvS X.K S0 S' H' (sl g') σ' ∧ whileO fc f m g' = some o ∧ Post X.K S0 S' H' sl kr D o, fun σ' H' q => ⟨m, Nat.lt_succ_self m, q⟩, g1, S0, S1, o1, E2, e3, ?_⟩
        cases o1 with
        | nx g' => exact fun σ' H' S' E' m' => ⟨g', S', E', e4, p2.back m'⟩
        | rt r =>
          cases e4
          exact p2
end
end PL

/-! PL7: stores, loops over things, comprehensions, defs. -/
namespace PL
open PySem PySem.Spec L2
open Enc (enc)

variable {Γ Γ' Γ'' Γb Γc ρ τ α β γ' δ ι : Type} {X : Cx} {sl : Γ → Sl} {sl' : Γ' → Sl} {sl'' : Γ'' → Sl} {slb : Γb → Sl} {slc : Γc → Sl} {e a b c d : Expr} {es : List Expr} {k k1 k2 k3 : Kd} {pos : Pos} {kr : Kd} {st : Stmt} {sts sts2 : List Stmt}

/-! ### an owned list changed -/
theorem EnvS.chg {K : PySem.W.Frag} {S0 S : Ad} {H : Hp} {l : Sl} {σ : L2.St} {i : Nat} {d d' : PyData} {a : Addr} {u : HO} (E : EnvS K S0 S H l σ) (hi : l[i]? = some (some (.o, d))) (hv : σ[i]? = some (some (.ref a))) (hS : S a)
    (new : Mv S H S (upd H a u) → Ow K (upd H a u) (un S S0) d' a) : Mv S H S (upd H a u) ∧ EnvS K S0 S (upd H a u) (l.set i (some (.o, d'))) σ := by
  have mv : Mv S H S (upd H a u) := fun b o h n => ⟨by rw [upd_ne fun z => n (by rw [z]; exact hS)]; exact h, n⟩
  have nn : ∀ b, H b ≠ none → upd H a u b ≠ none := fun b h => by
    by_cases hb : b = a
    · subst hb; rw [upd_same]; simp
    · rw [upd_ne hb]; exact h
  refine ⟨mv, by simp [E.len], fun b h => nn b (E.dS b h), fun b h => nn b (E.d0 b h), E.ap, fun j m e h => ?_, fun j j' e e' w hij hj hj' hw => ?_⟩
  · rcases set_get h with ⟨rfl, e1, hl⟩ | ⟨hne, h⟩
    · cases e1
      exact ⟨_, hv, a, rfl, hS, new mv⟩
    · obtain ⟨w, h1, h2⟩ := E.at_ j m e h
      refine ⟨w, h1, ?_⟩
      cases m with
      | a => exact Rp.mv mv.un _ _ h2
      | b => exact Rbs.mv mv h2
      | o =>
        obtain ⟨q, rfl, h2, h3⟩ := h2
        have hq : q ≠ a := fun z => E.one i j d e _ hne hi h hv (z ▸ h1)
        refine ⟨q, rfl, h2, ?_⟩
        rcases h3 with ⟨ds, xs, e1, e2, e3⟩ | ⟨ds, xs, e1, e2, e3⟩
        · exact .inl ⟨ds, xs, e1, by rw [upd_ne hq]; exact e2, e3.mv mv.un⟩
        · exact .inr ⟨ds, xs, e1, by rw [upd_ne hq]; exact e2, e3.mv mv.un⟩
  · have oo : ∀ {j : Nat} {e : PyData}, (l.set i (some (.o, d')))[j]? = some (some (.o, e)) → ∃ e', l[j]? = some (some (.o, e')) := fun h => by
      rcases set_get h with ⟨rfl, _, _⟩ | ⟨_, h⟩
      · exact ⟨_, hi⟩
      · exact ⟨_, h⟩
    obtain ⟨x, hx⟩ := oo hj
    obtain ⟨y, hy⟩ := oo hj'
    exact E.one j j' x y w hij hx hy hw
def push (l : List τ) (t : τ) : Option (List τ) := if l.length < sizeLine then some (l ++ [t]) else none
section
variable [Enc ρ] [Enc τ] {f : Γ → Option τ} {i : Nat} {x : Str} {p0 : Pos} {apos cpos : Pos}
/-- x.append(e), x owned -/
theorem sv_app (q : Γ → List τ) (set : Γ → List τ → Γ') (hq : ∀ g, (sl g)[i]? = some (some (.o, enc (q g)))) (h : ∀ g t, sl' (set g t) = (sl g).set i (some (.o, enc t))) (he : PV X sl .a e f) (hN : X.N[i]? = some x := by rfl)
    (hv : Vis X.env.scope x := by first | exact Or.inl rfl | exact Or.inr (Or.inl rfl) | exact Or.inr (Or.inr rfl)) (hd : (x == ("__debug__" : Str)) = false := by decide) (hcd : (x == ("__classdict__" : Str)) = false := by decide)
    (hbase : attributeBase (.Name x p0) "append" X.env (eval (.Name x p0) X.env) = eval (.Name x p0) X.env := by rfl)
    (hfew : ((backTo cpos (starEach [e] X.env)).all (fun x => !x.1) && (backToKw cpos (keywordEach [] X.env)).all (fun x => x.1.isSome)
      && decide ([e].length + ([] : List Keyword).length + (if ([] : List Keyword).isEmpty then 0 else 1) < 30)) = true := by rfl)
    (hline : (apos.endLine == cpos.line) = true := by rfl) (hs1 : starEach [e] X.env = (false, eval e X.env) :: starEach [] X.env := by rfl) (hplain : (backTo cpos (starEach [] X.env)).any (·.1) = false := by rfl)
    (hs : swapsWith (.Call (.Attribute (.Name x p0) "append" apos) [e] [] cpos) none pos.line X.env = pure false := by rfl) :
    SV (ρ := ρ) X sl sl' kr (.Expr (.Call (.Attribute (.Name x p0) "append" apos) [e] [] cpos) pos) (fun g => (f g).bind fun t => (push (q g) t).bind fun l => some (.nx (set g l))) :=
  PS.imp (ps_expr (pe_bm PySem.F.plainAttrs_list PySem.F.slot_list_append PySem.F.type_list_append mt_append (pe_var (i := i) hN hv hd hcd) (pa_cons he pa_nil hs1) hbase hfew hline hs1 hplain) hs) fun D σ H ⟨γ, S0, S, o, E, hf, p⟩ => by
    obtain ⟨t, e1, e2⟩ := bind1 hf
    obtain ⟨l, e3, e4⟩ := bind1 e2
    cases e4
    obtain ⟨hz, rfl⟩ := if_some e3
    obtain ⟨v, h1, a, rfl, h2, h3⟩ := E.at_ i _ _ (hq γ)
    rcases h3 with ⟨ds, xs, e1', e2', e3'⟩ | ⟨_, _, e1', _⟩
    · cases e1'
      refine ⟨_, h1, .inl ⟨rfl, xs, .inl (.inl e2')⟩, γ, S0, S, t, E, e1, fun y H1 s1 r1 => ?_⟩
      have E1 := E.same s1
      have hH1 := s1 _ _ e2'
      have hx : RpA X.K H1 (un S S0) ((q γ).map enc) xs := e3'.mv (.same s1)
      refine ⟨a, xs, y, rfl, rfl, hH1, by rw [map_len hx]; exact hz, ?_⟩
      obtain ⟨mv, E2⟩ := E1.chg (u := .lst (xs ++ [y])) (d' := enc (q γ ++ [t])) (hq γ) h1 h2 fun mv => .inl ⟨_, _, rfl, upd_same, by
        rw [List.map_append]
        exact (hx.mv mv.un).append (.one (Rp.mv mv.un _ _ r1))⟩
      refine p _ _ S ?_ ((Mv.same s1).trans mv)
      rw [h]
      exact E2
    · cases e1'
/-- x[j] = e, x an owned list -/
def lSet (l : List τ) (j : Int) (t : τ) : Option (List τ) := (ixN l.length j).bind fun n => some (l.set n t)
theorem sv_put {g : Γ → Option Int} {jx : Expr} {ipos : Pos} (q : Γ → List τ) (set : Γ → List τ → Γ') (hq : ∀ g, (sl g)[i]? = some (some (.o, enc (q g)))) (h : ∀ g t, sl' (set g t) = (sl g).set i (some (.o, enc t))) (he : PV X sl .a e f) (hj : PV X sl .b jx g) (hN : X.N[i]? = some x := by rfl)
    (hv : Vis X.env.scope x := by first | exact Or.inl rfl | exact Or.inr (Or.inl rfl) | exact Or.inr (Or.inr rfl)) (hd : (x == ("__debug__" : Str)) = false := by decide) (hcd : (x == ("__classdict__" : Str)) = false := by decide)
    (ha : ∀ v, assign (.Subscript (.Name x p0) jx ipos) X.env v = (do
      let ov ← holding [v] (eval (.Name x p0) X.env)
      let iv ← holding [v, ov] (eval jx X.env)
      standAt ipos
      holding [v, ov, iv] (setItem ov iv v)
      release [v, ov, iv] []) := by intro _; rfl)
    (hs : swapsWithSole [.Subscript (.Name x p0) jx ipos] e pos.line X.env = pure false := by rfl) (hw : swappedStores [.Subscript (.Name x p0) jx ipos] e X.env = pure none := by rfl)
    (h1 : (assignEach [.Subscript (.Name x p0) jx ipos] X.env).map (·.2) = [assign (.Subscript (.Name x p0) jx ipos) X.env] := by rfl) :
    SV (ρ := ρ) X sl sl' kr (.Assign [.Subscript (.Name x p0) jx ipos] e pos) (fun s => (f s).bind fun t => (g s).bind fun j => (lSet (q s) j t).bind fun l => some (.nx (set s l))) :=
  PS.imp (ps_asg he (pg_sub (pe_var (i := i) hN hv hd hcd) hj set_list ha) hs hw h1) fun D σ H ⟨γ, S0, S, o, E, hf, p⟩ => by
    obtain ⟨t, j, e1, e2, e3⟩ := bind2 hf
    obtain ⟨l, e4, e5⟩ := bind1 e3
    cases e5
    obtain ⟨n, e6, e7⟩ := bind1 e4
    cases e7
    refine ⟨γ, S0, S, t, E, e1, fun y H1 s1 r1 => ?_⟩
    have E1 := E.same s1
    obtain ⟨v, h1, a, rfl, h2, h3⟩ := E1.at_ i _ _ (hq γ)
    refine ⟨_, h1, γ, S0, S, j, E1, e2, fun z H2 s2 r2 => ?_⟩
    have E2 := E1.same s2
    rcases h3 with ⟨ds, xs, e1', e2', e3'⟩ | ⟨_, _, e1', _⟩
    · cases e1'
      have hx : RpA X.K H2 (un S S0) ((q γ).map enc) xs := e3'.mv (.same s2)
      refine ⟨a, xs, j, n, rfl, rb_i r2, s2 _ _ e2', by rw [map_len hx]; exact e6, ?_⟩
      obtain ⟨mv, E3⟩ := E2.chg (u := .lst (xs.set n y)) (d' := enc ((q γ).set n t)) (hq γ) h1 h2 fun mv => .inl ⟨_, _, rfl, upd_same, by
        rw [List.map_set]
        exact (hx.mv mv.un).set n (Rp.mv (Mv.trans (.same s2) mv.un) _ _ r1)⟩
      refine p _ _ S ?_ ((Mv.same (s1.trans s2)).trans mv)
      rw [h]
      exact E3
    · cases e1'
end

/-! ### targets -/
def wipeS (l : Sl) : List Nat → Sl
  | [] => l
  | v :: vs => (wipeS l vs).set v none
theorem wipeS_len (l : Sl) : ∀ vs : List Nat, (wipeS l vs).length = l.length
  | [] => rfl
  | v :: vs => by unfold wipeS; rw [List.length_set, wipeS_len l vs]
theorem wipeS_get {l : Sl} : ∀ {vs : List Nat} {i : Nat} {x : Mo × PyData}, (wipeS l vs)[i]? = some (some x) → l[i]? = some (some x) ∧ i ∉ vs
  | [], i, x, h => ⟨h, by simp⟩
  | v :: vs, i, x, h => by
    unfold wipeS at h
    rcases set_get h with ⟨_, e, _⟩ | ⟨hne, h⟩
    · cases e
    · obtain ⟨h1, h2⟩ := wipeS_get h
      exact ⟨h1, by simp only [List.mem_cons, not_or]; exact ⟨fun e => hne e.symm, h2⟩⟩
theorem wipe_in {σ : L2.St} {i : Nat} : ∀ {vs : List Nat}, i ∈ vs → i < σ.length → (wipe σ vs)[i]? = some none
  | v :: vs, h, hl => by
    unfold wipe
    by_cases hi : v = i
    · subst hi
      rw [List.getElem?_set_self (by rw [wipe_length]; exact hl)]
    · rw [List.getElem?_set_ne hi]
      rcases List.mem_cons.mp h with e | h
      · exact absurd e.symm hi
      · exact wipe_in h hl
theorem wipe_eq {σ σ' : L2.St} {vs : List Nat} (hl : σ'.length = σ.length) (h : ∀ i, i ∉ vs → σ'[i]? = σ[i]?) : wipe σ' vs = wipe σ vs := by
  apply List.ext_getElem?
  intro i
  by_cases hi : i ∈ vs
  · by_cases hn : i < σ.length
    · rw [wipe_in hi hn, wipe_in hi (by rw [hl]; exact hn)]
    · rw [List.getElem?_eq_none (by rw [wipe_length]; omega), List.getElem?_eq_none (by rw [wipe_length]; omega)]
  · rw [wipe_out hi, wipe_out hi, h i hi]
theorem wipe_set {σ : L2.St} {vs : List Nat} {j : Nat} {y : Option V} (h : j ∈ vs) : wipe (σ.set j y) vs = wipe σ vs :=
  wipe_eq (by simp) fun i hi => by rw [List.getElem?_set_ne]; exact fun e => hi (e ▸ h)
theorem wipe_wipe {σ : L2.St} {vs : List Nat} : wipe (wipe σ vs) vs = wipe σ vs := wipe_eq (wipe_length σ vs) fun i hi => wipe_out hi
theorem EnvS.wipe {K : PySem.W.Frag} {S0 S : Ad} {H : Hp} {l : Sl} {σ : L2.St} (E : EnvS K S0 S H l σ) (vs : List Nat) : EnvS K S0 S H (wipeS l vs) (L2.wipe σ vs) := by
  refine ⟨by rw [wipeS_len, wipe_length]; exact E.len, E.dS, E.d0, E.ap, fun i m d h => ?_, fun i j d e v hij hi hj hv => ?_⟩
  · obtain ⟨h1, h2⟩ := wipeS_get h
    rw [wipe_out h2]
    exact E.at_ i m d h1
  · obtain ⟨h1, h2⟩ := wipeS_get hi
    obtain ⟨h3, h4⟩ := wipeS_get hj
    rw [wipe_out h2] at hv
    rw [wipe_out h4]
    exact E.one i j d e v hij h1 h3 hv
/-- a value for a target: what is stored is told by set, at the slots js -/
def tG [Enc ι] (K : PySem.W.Frag) (sl : Γ → Sl) (slb : Γb → Sl) (set : Γ → ι → Γb) (js : List Nat) : TG := fun v σ H Q =>
  ∃ (g : Γ) (S0 S : Ad) (x : ι), EnvS K S0 S H (sl g) σ ∧ Rp K H (un S S0) (enc x) v ∧ ∀ σ', EnvS K S0 S H (slb (set g x)) σ' → (∀ vs : List Nat, (∀ i ∈ js, i ∈ vs) → wipe σ' vs = wipe σ vs) → Q σ' H
def GV [Enc ι] (X : Cx) (sl : Γ → Sl) (slb : Γb → Sl) (tg : Expr) (set : Γ → ι → Γb) (js : List Nat) : Prop := PG X tg (tG X.K sl slb set js)
theorem PG.imp {X : Cx} {tg : Expr} {t t' : TG} (h : PG X tg t) (i : ∀ v σ H Q, t' v σ H Q → t v σ H Q) : PG X tg t' := ⟨fun pins s σ H v u Q I r q => h.run pins s σ H v u Q I r (i v σ H Q q)⟩
theorem PGs.imp {X : Cx} {tg : List Expr} {t t' : TGs} (h : PGs X tg t) (i : ∀ v σ H Q, t' v σ H Q → t v σ H Q) : PGs X tg t' := ⟨fun pins s σ H v u Q I r q => h.run pins s σ H v u Q I r (i v σ H Q q)⟩
theorem gv_name [Enc ι] {set : Γ → ι → Γb} {i : Nat} {x : Str} (h : ∀ g t, slb (set g t) = (sl g).set i (some (.a, enc t))) (hN : X.N.Nodup) (hi : X.N[i]? = some x := by rfl) (hx : Loc X.env.scope x := by first | exact .inl rfl | exact .inr rfl)
    (hf : X.fn x = true ∨ X.env.scope.names.lookup x = some .local := by first | exact .inl rfl | exact .inr rfl) : GV X sl slb (.Name x pos) set [i] := PG.imp (pg_name hN hi hx hf) fun v σ H Q ⟨g, S0, S, x, E, r, q⟩ => by
  refine q _ ?_ fun vs hv => wipe_set (hv i (by simp))
  rw [h]
  exact E.seta r
/-- targets one after another -/
def tGs (K : PySem.W.Frag) (sl : Γ → Sl) (slb : Γb → Sl) (ds : ι → List PyData) (set : Γ → ι → Γb) (js : List Nat) : TGs := fun vs σ H Q =>
  ∃ (g : Γ) (S0 S : Ad) (x : ι), EnvS K S0 S H (sl g) σ ∧ RpA K H (un S S0) (ds x) vs ∧ ∀ σ', EnvS K S0 S H (slb (set g x)) σ' → (∀ vs : List Nat, (∀ i ∈ js, i ∈ vs) → wipe σ' vs = wipe σ vs) → Q σ' H
theorem gvs_nil : PGs X [] (tGs (ι := ι) X.K sl sl (fun _ => []) (fun g _ => g) []) := PGs.imp pgs_nil fun vs σ H Q ⟨g, S0, S, x, E, r, q⟩ => ⟨r, q σ E fun _ _ => rfl⟩
theorem gvs_cons [Enc α] {e : Expr} {es : List Expr} {slm : Γ' → Sl} {set1 : Γ → α → Γ'} {set2 : Γ' → β → Γb} {js1 js2 : List Nat} {ds : β → List PyData} {p1 : ι → α} {p2 : ι → β} (h1 : GV X sl slm e set1 js1) (h2 : PGs X es (tGs X.K slm slb ds set2 js2))
    (hs : (assignEach (e :: es) X.env).map (·.2) = assign e X.env :: (assignEach es X.env).map (·.2) := by rfl) :
    PGs X (e :: es) (tGs X.K sl slb (fun x => enc (p1 x) :: ds (p2 x)) (fun g x => set2 (set1 g (p1 x)) (p2 x)) (js1 ++ js2)) := PGs.imp (pgs_cons h1 h2 hs) fun vs σ H Q ⟨g, S0, S, x, E, r, q⟩ => by
  obtain ⟨v, ws, rfl, r1, r2⟩ := r
  refine ⟨v, ws, rfl, g, S0, S, p1 x, E, r1, fun σ1 E1 w1 => ⟨_, S0, S, p2 x, E1, r2, fun σ2 E2 w2 => q σ2 E2 fun vs hv => ?_⟩⟩
  rw [w2 vs fun i hi => hv i (by simp [hi]), w1 vs fun i hi => hv i (by simp [hi])]
theorem gv_tup [Enc ι] {es : List Expr} {kk n : Nat} {set : Γ → ι → Γb} {js : List Nat} (ds : ι → List PyData) (hd : ∀ x, enc x = .tuple (ds x)) (hl : ∀ x, (ds x).length = n) (h : PGs X es (tGs X.K sl slb ds set js)) (hc : X.calm = true := by rfl)
    (hn : (assignEach es X.env).length = n := by rfl) (hst : (assignEach es X.env).findIdx? (·.1) = none := by rfl) : GV X sl slb (.Tuple es kk pos) set js := PG.imp (pg_tup hc h hn hst) fun v σ H Q ⟨g, S0, S, x, E, r, q⟩ => by
  rw [hd] at r
  obtain ⟨a, xs, rfl, h1, h2⟩ := r
  exact ⟨a, xs, rfl, h1.sq, by rw [h2.length, hl], g, S0, S, x, E, h2, q⟩
/-- a, b = e -/
theorem sv_tup [Enc ρ] [Enc ι] {tg : Expr} {f : Γ → Option ι} {set : Γ → ι → Γ'} {js : List Nat} (hg : GV X sl sl' tg set js) (he : PV X sl .a e f) (hs : swapsWithSole [tg] e pos.line X.env = pure false := by rfl) (hw : swappedStores [tg] e X.env = pure none := by rfl)
    (h1 : (assignEach [tg] X.env).map (·.2) = [assign tg X.env] := by rfl) : SV (ρ := ρ) X sl sl' kr (.Assign [tg] e pos) (fun g => (f g).bind fun t => some (.nx (set g t))) :=
  PS.imp (ps_asg he hg hs hw h1) fun D σ H ⟨γ, S0, S, o, E, hf, p⟩ => by
    obtain ⟨t, e1, e2⟩ := bind1 hf
    cases e2
    exact ⟨γ, S0, S, t, E, e1, fun v H' s r => ⟨γ, S0, S, t, E.same s, r, fun σ' E' _ => p σ' H' S E' (.same s)⟩⟩
/-- a, b = x, y: two local names -/
theorem sv_par [Enc ρ] [Enc α] [Enc β] {i j : Nat} {x y : Str} {px py pt : Pos} {kt k2 : Nat} {pt2 : Pos} {fa : Γ → Option α} {fb : Γ → Option β} (set : Γ → α → β → Γ') (h : ∀ g t u, sl' (set g t u) = ((sl g).set i (some (.a, enc t))).set j (some (.a, enc u)))
    (hN : X.N.Nodup) (ha : PV X sl .a a fa) (hb : PV X sl .a b fb) (hij : i ≠ j := by decide) (hi : X.N[i]? = some x := by rfl) (hj : X.N[j]? = some y := by rfl) (hx : X.env.scope.names.lookup x = some .local := by rfl) (hy : X.env.scope.names.lookup y = some .local := by rfl) (hc : X.calm = true := by rfl)
    (h1 : starEach [a, b] X.env = (false, eval a X.env) :: starEach [b] X.env := by rfl) (h2 : starEach [b] X.env = (false, eval b X.env) :: starEach [] X.env := by rfl)
    (hw : swappedStores [.Tuple [.Name x px, .Name y py] kt pt] (.Tuple [a, b] k2 pt2) X.env = pure (some [x, y]) := by rfl)
    (hs : swapsWithSole [.Tuple [.Name x px, .Name y py] kt pt] (.Tuple [a, b] k2 pt2) pos.line X.env = pure false := by rfl) :
    SV (ρ := ρ) X sl sl' kr (.Assign [.Tuple [.Name x px, .Name y py] kt pt] (.Tuple [a, b] k2 pt2) pos) (fun g => (fa g).bind fun t => (fb g).bind fun u => some (.nx (set g t u))) :=
  PS.imp (ps_par hc hN hi hj hij hx hy (pa_cons ha (pa_cons hb pa_nil h2) h1) hw hs) fun D σ H ⟨γ, S0, S, o, E, hf, p⟩ => by
    obtain ⟨t, u, e1, e2, e3⟩ := bind2 hf
    cases e3
    refine ⟨γ, S0, S, t, E, e1, fun v H1 s1 r1 => ⟨γ, S0, S, u, E.same s1, e2, fun w H2 s2 r2 => ⟨v, w, rfl, ?_⟩⟩⟩
    refine p _ _ S ?_ (.same (s1.trans s2))
    rw [h]
    exact (((E.same s1).same s2).seta (Rp.mv (.same s2) _ _ r1)).seta r2

/-! ### what is walked -/
def ItOk [Enc ι] (K : PySem.W.Frag) (S0 S : Ad) (kd : Kd) (J : It) (H1 : Hp) (xs : List ι) : Prop :=
  ∀ (S2 : Ad) (H2 : Hp), Mv S H1 S2 H2 → (kd = .b → Same H1 H2) → (∀ a, un S2 S0 a → H2 a ≠ none) →
    (∀ i, xs.length ≤ i → J.stop i H2) ∧ ∀ i x, xs[i]? = some x → J.go i H2 ∧ ∀ v H3, J.yld i H2 v H3 → Same H2 H3 ∧ Rp K H3 (un S2 S0) (enc x) v
def tI [Enc ι] (K : PySem.W.Frag) (sl : Γ → Sl) (kd : Kd) (f : Γ → Option (List ι)) : TI := fun σ H R =>
  ∃ (g : Γ) (S0 S : Ad) (xs : List ι), EnvS K S0 S H (sl g) σ ∧ f g = some xs ∧ ∀ J H', Same H H' → ItOk K S0 S kd J H' xs → R J H'
def IV [Enc ι] (X : Cx) (sl : Γ → Sl) (kd : Kd) (tg it : Expr) (f : Γ → Option (List ι)) : Prop := PI X tg it (tI X.K sl kd f)
theorem IV.ab [Enc ι] {tg it : Expr} {f : Γ → Option (List ι)} (h : IV X sl .a tg it f) : IV X sl .b tg it f := PI.imp h fun σ H R ⟨g, S0, S, xs, E, hf, q⟩ =>
  ⟨g, S0, S, xs, E, hf, fun J H' s ok => q J H' s fun S2 H2 m _ d => ok S2 H2 m (fun z => nomatch z) d⟩
theorem ok_list [Enc ι] {K : PySem.W.Frag} {S0 S : Ad} {H1 : Hp} {xs : List ι} {a : Addr} {vs : List V} {kd : Kd} (h : ∀ S2 H2, Mv S H1 S2 H2 → (kd = .b → Same H1 H2) → SqL K H2 a vs) (r : RpA K H1 (un S S0) (xs.map enc) vs) : ItOk K S0 S kd (Itl K a) H1 xs := by
  intro S2 H2 m s d
  have h2 := h S2 H2 m s
  have r2 := r.mv m.un
  refine ⟨fun i hi => ⟨vs, h2, by rw [map_len r2]; exact hi⟩, fun i x hx => ?_⟩
  obtain ⟨v, e1, e2⟩ := map_get r2 hx
  refine ⟨⟨vs, v, h2, e1⟩, fun w H3 hy => ?_⟩
  obtain ⟨rfl, hy⟩ := hy
  have e3 := hy vs h2
  rw [e1] at e3
  cases e3
  exact ⟨Same.refl _, e2⟩
theorem piv_list [Enc ι] {tg : Expr} {f : Γ → Option (List ι)} (h : PV X sl .a e f) : IV X sl .a tg e f := PI.imp (pi_list h) fun σ H R ⟨g, S0, S, xs, E, hf, q⟩ => by
  refine ⟨g, S0, S, xs, E, hf, fun v H1 s1 r1 => ?_⟩
  obtain ⟨a, vs, rfl, h1, h2⟩ := r1
  exact ⟨a, rfl, ⟨vs, h1.sq⟩, q _ H1 s1 (ok_list (fun S2 H2 m _ => (h1.mv m.un).sq) h2)⟩
theorem sq_same {K : PySem.W.Frag} {H H' : Hp} {a : Addr} {xs : List V} (s : Same H H') (h : SqL K H a xs) : SqL K H' a xs := s.seq h
theorem piv_listb [Enc ι] {tg : Expr} {f : Γ → Option (List ι)} (h : PV X sl .b e f) : IV X sl .b tg e f := PI.imp (pi_list h) fun σ H R ⟨g, S0, S, xs, E, hf, q⟩ => by
  refine ⟨g, S0, S, xs, E, hf, fun v H1 s1 r1 => ?_⟩
  obtain ⟨a, vs, rfl, h1, h2⟩ := rb_l r1
  exact ⟨a, rfl, ⟨vs, h1⟩, q _ H1 s1 (ok_list (fun S2 H2 _ s => sq_same (s rfl) h1) h2)⟩
/-- lo, lo + 1, .. -/
def rng (lo : Int) (n : Nat) : List Int := (List.range n).map fun i : Nat => lo + i
theorem rng_len {lo : Int} {n : Nat} : (rng lo n).length = n := by unfold rng; simp
theorem rng_get {lo : Int} {n i : Nat} {x : Int} (h : (rng lo n)[i]? = some x) : i < n ∧ x = lo + i := by
  unfold rng at h
  rw [List.getElem?_map] at h
  by_cases hi : i < n
  · rw [List.getElem?_range hi] at h
    exact ⟨hi, (Option.some.inj h).symm⟩
  · rw [List.getElem?_eq_none (by simpa using hi)] at h
    cases h
theorem ok_rng {K : PySem.W.Frag} {S0 S : Ad} {H1 : Hp} {kd : Kd} {lo : Int} {n : Nat} : ItOk K S0 S kd (Itr lo n) H1 (rng lo n) := by
  intro S2 H2 m s d
  refine ⟨fun i hi => by rw [rng_len] at hi; exact hi, fun i x hx => ?_⟩
  obtain ⟨h1, rfl⟩ := rng_get hx
  refine ⟨h1, fun v H3 hy => ?_⟩
  obtain ⟨rfl, rfl⟩ := hy
  exact ⟨Same.refl _, rfl⟩
def inR (j : Int) : Prop := -(2 ^ 62) ≤ j ∧ j < 2 ^ 62
instance (j : Int) : Decidable (inR j) := by unfold inR; exact inferInstance
def rng1 (j : Int) : Option (List Int) := if inR j then some (rng 0 j.toNat) else none
def rng2 (i j : Int) : Option (List Int) := if inR i ∧ inR j then some (rng i (j - i).toNat) else none
section
variable {p : Pos} {fa fb : Γ → Option Int} {tg : Expr}
theorem piv_range1 (hg : Gl X "range") (hm : X.mg "range" = none) (ha : PV X sl .b a fa) (hs : starEach [a] X.env = [(false, eval a X.env)] := by rfl) : IV X sl .a tg (.Call (.Name "range" p) [a] [] pos) (fun s => (fa s).bind fun j => rng1 j) :=
  PI.imp (pi_range1 hg hm (pa_cons ha pa_nil hs) hs) fun σ H R ⟨g, S0, S, xs, E, hf, q⟩ => by
    obtain ⟨j, e1, e2⟩ := bind1 hf
    obtain ⟨h1, rfl⟩ := if_some e2
    refine ⟨g, S0, S, j, E, e1, fun v H1 s1 r1 => ⟨j, by rw [rb_i r1], h1.1, h1.2, q _ H1 s1 ok_rng⟩⟩
theorem piv_range2 (hg : Gl X "range") (hm : X.mg "range" = none) (ha : PV X sl .b a fa) (hb : PV X sl .b b fb) (hs : starEach [a, b] X.env = [(false, eval a X.env), (false, eval b X.env)] := by rfl) (hs2 : starEach [b] X.env = [(false, eval b X.env)] := by rfl) :
    IV X sl .a tg (.Call (.Name "range" p) [a, b] [] pos) (fun s => (fa s).bind fun i => (fb s).bind fun j => rng2 i j) :=
  PI.imp (pi_range2 hg hm (pa_cons ha (pa_cons hb pa_nil hs2) (by rw [hs, hs2])) hs hs2) fun σ H R ⟨g, S0, S, xs, E, hf, q⟩ => by
    obtain ⟨i, j, e1, e2, e3⟩ := bind2 hf
    obtain ⟨⟨h1, h2⟩, rfl⟩ := if_some e3
    exact ⟨g, S0, S, i, E, e1, fun v H1 s1 r1 => ⟨g, S0, S, j, E.same s1, e2, fun w H2 s2 r2 => ⟨i, j, by rw [rb_i r1, rb_i r2], ⟨h1.1, h1.2, h2.1, h2.2⟩, q _ H2 (s1.trans s2) ok_rng⟩⟩⟩
end
theorem piv_enum [Enc τ] {elts : List Expr} {kk : Nat} {p tpos : Pos} {f : Γ → Option (List τ)} (hg : Gl X "enumerate") (hm : X.mg "enumerate" = none) (ha : PV X sl .a a f) (hs : starEach [a] X.env = [(false, eval a X.env)] := by rfl) :
    IV X sl .a (.Tuple elts kk tpos) (.Call (.Name "enumerate" p) [a] [] pos) (fun s => (f s).bind fun l => some (l.zipIdx.map fun q => T2.mk (q.2 : Int) q.1)) :=
  PI.imp (pi_enum hg hm (pa_cons ha pa_nil hs) hs) fun σ H R ⟨g, S0, S, xs, E, hf, q⟩ => by
    obtain ⟨l, e1, e2⟩ := bind1 hf
    cases e2
    refine ⟨g, S0, S, l, E, e1, fun v H1 s1 r1 => ?_⟩
    obtain ⟨a, vs, rfl, h1, h2⟩ := r1
    refine ⟨a, vs, rfl, h1.sq, q _ H1 s1 fun S2 H2 m s d => ?_⟩
    have h3 := (h1.mv m.un).sq
    have r2 : RpA X.K H2 (un S2 S0) (l.map enc) vs := RpA.mv m.un _ _ h2
    refine ⟨fun i hi => ⟨vs, h3, by rw [map_len r2]; simpa using hi⟩, fun i x hx => ?_⟩
    obtain ⟨y, hy, rfl⟩ : ∃ y, l[i]? = some y ∧ x = T2.mk (i : Int) y := by
      rw [List.getElem?_map, List.getElem?_zipIdx] at hx
      cases h : l[i]? with
      | none => rw [h] at hx; cases hx
      | some y => rw [h] at hx; cases hx; exact ⟨y, rfl, by simp⟩
    obtain ⟨v, g1, g2⟩ := map_get r2 hy
    refine ⟨⟨vs, v, h3, g1⟩, fun w H3 hy => ?_⟩
    obtain ⟨T, z, rfl, hT, rfl, hz⟩ := hy
    have e3 := hz vs h3
    rw [g1] at e3
    cases e3
    exact ⟨same_new hT, rp_newT d hT ⟨_, _, rfl, rfl, .one g2⟩⟩
theorem piv_zip [Enc α] [Enc β] {elts : List Expr} {kk : Nat} {p tpos : Pos} {fa : Γ → Option (List α)} {fb : Γ → Option (List β)} (hg : Gl X "zip") (hm : X.mg "zip" = none) (ha : PV X sl .a a fa) (hb : PV X sl .a b fb)
    (hs : starEach [a, b] X.env = (false, eval a X.env) :: starEach [b] X.env := by rfl) (hs2 : starEach [b] X.env = (false, eval b X.env) :: starEach [] X.env := by rfl) (hpl : (backTo pos (starEach [b] X.env)).any (·.1) = false := by rfl) :
    IV X sl .a (.Tuple elts kk tpos) (.Call (.Name "zip" p) [a, b] [] pos) (fun s => (fa s).bind fun l => (fb s).bind fun r => some (List.zipWith T2.mk l r)) :=
  PI.imp (pi_zip hg hm (pa_cons ha (pa_cons hb pa_nil hs2) hs) hs hpl) fun σ H R ⟨g, S0, S, xs, E, hf, q⟩ => by
    obtain ⟨l, r, e1, e2, e3⟩ := bind2 hf
    cases e3
    refine ⟨g, S0, S, l, E, e1, fun v H1 s1 r1 => ⟨g, S0, S, r, E.same s1, e2, fun w H2 s2 r2 => ?_⟩⟩
    have r1 := Rp.mv (.same s2) _ _ r1
    obtain ⟨a, vs, rfl, h1, h2⟩ := r1
    obtain ⟨b, ws, rfl, h3, h4⟩ := r2
    refine ⟨a, b, vs, ws, rfl, h1.sq, h3.sq, q _ H2 (s1.trans s2) fun S2 H3 m s d => ?_⟩
    have g1 := (h1.mv m.un).sq
    have g3 := (h3.mv m.un).sq
    have g2 : RpA X.K H3 (un S2 S0) (l.map enc) vs := RpA.mv m.un _ _ h2
    have g4 : RpA X.K H3 (un S2 S0) (r.map enc) ws := RpA.mv m.un _ _ h4
    refine ⟨fun i hi => ⟨vs, ws, g1, g3, by rw [map_len g2, map_len g4]; rw [List.length_zipWith] at hi; omega⟩, fun i x hx => ?_⟩
    rw [List.getElem?_zipWith] at hx
    cases hl : l[i]? with
    | none => rw [hl] at hx; cases hx
    | some y =>
      cases hr : r[i]? with
      | none => rw [hl, hr] at hx; cases hx
      | some z =>
        rw [hl, hr] at hx
        cases hx
        obtain ⟨v, j1, j2⟩ := map_get g2 hl
        obtain ⟨w, j3, j4⟩ := map_get g4 hr
        refine ⟨⟨vs, ws, v, w, g1, g3, j1, j3⟩, fun u H4 hy => ?_⟩
        obtain ⟨T, y', z', rfl, hT, rfl, hy, hz⟩ := hy
        have e3 := hy vs g1
        have e4 := hz ws g3
        rw [j1] at e3
        rw [j3] at e4
        cases e3; cases e4
        exact ⟨same_new hT, rp_newT d hT ⟨_, _, rfl, j2, .one j4⟩⟩
theorem piv_str {tg : Expr} {f : Γ → Option Tx} (h : PV X sl .b e f) : IV X sl .a tg e (fun s => (f s).bind fun t => some (t.cs.map fun c => (⟨[c]⟩ : Tx))) := PI.imp (pi_str h) fun σ H R ⟨g, S0, S, xs, E, hf, q⟩ => by
  obtain ⟨t, e1, e2⟩ := bind1 hf
  cases e2
  refine ⟨g, S0, S, t, E, e1, fun v H1 s1 r1 => ⟨_, rb_t r1, q _ H1 s1 fun S2 H2 m s d => ?_⟩⟩
  refine ⟨fun i hi => by show Array.size _ ≤ i; simpa using hi, fun i x hx => ?_⟩
  rw [List.getElem?_map] at hx
  cases hc : t.cs[i]? with
  | none => rw [hc] at hx; cases hx
  | some c =>
    rw [hc] at hx
    cases hx
    obtain ⟨hl, _⟩ := List.getElem?_eq_some_iff.mp hc
    refine ⟨by show i < Array.size _; simpa using hl, fun v H3 hy => ?_⟩
    obtain ⟨rfl, c', hc', rfl⟩ := hy
    have e3 : t.cs[i]? = some c' := by simpa using hc'
    rw [hc] at e3
    cases e3
    exact ⟨Same.refl _, rfl⟩

/-! ### for -/
def forO (set : Γ → ι → Γb) (b : Γb → Option (Out Γ ρ)) : List ι → Γ → Option (Out Γ ρ)
  | [], g => some (.nx g)
  | x :: xs, g => seqO (b (set g x)) (forO set b xs)
theorem sv_for [Enc ρ] [Enc ι] {tg : Expr} {fi : Γ → Option (List ι)} {set : Γ → ι → Γb} {js : List Nat} {f : Γb → Option (Out Γ ρ)} (hp : PassesOwn (model X.prog X.w) X.A X.env X.xe) (hi : IV X sl .a tg e fi) (hg : GV X sl slb tg set js) (hb : BV X slb sl kr sts f) (hc : X.calm = true := by rfl)
    (hs : ∀ x, foldedSetIterable e X.env x = pure x := by intro _; rfl) : SV X sl sl kr (.For tg e sts [] pos) (fun g => (fi g).bind fun xs => forO set f xs g) :=
  PS.imp (ps_for hp hc hi hg hb hs) fun D σ H ⟨γ, S0, S, o, E, hf, p⟩ => by
    obtain ⟨xs, e1, e2⟩ := bind1 hf
    refine ⟨γ, S0, S, xs, E, e1, fun J H1 s1 ok => ?_⟩
    refine ⟨fun i m σ2 H2 => ∃ g2 S2, EnvS X.K S0 S2 H2 (sl g2) σ2 ∧ Mv S H1 S2 H2 ∧ i + m = xs.length ∧ forO set f (xs.drop i) g2 = some o ∧ Post X.K S0 S2 H2 sl kr D o,
      ⟨xs.length, γ, S, E.same s1, .refl, Nat.zero_add _, e2, p.back (.same s1)⟩, ?_⟩
    rintro i m σ2 H2 ⟨g2, S2, E2, mv, him, h2, p2⟩
    obtain ⟨hstop, hgo⟩ := ok S2 H2 mv (fun z => nomatch z) E2.dT
    cases hx : xs[i]? with
    | none =>
      have hi : xs.length ≤ i := List.getElem?_eq_none_iff.mp hx
      rw [List.drop_of_length_le hi] at h2
      cases h2
      exact .inl ⟨hstop i hi, p2 σ2 H2 S2 E2 .refl⟩
    | some x =>
      obtain ⟨hi, ex⟩ := List.getElem?_eq_some_iff.mp hx
      obtain ⟨hg1, hy⟩ := hgo i x hx
      rw [List.drop_eq_getElem_cons hi, ex] at h2
      obtain ⟨o1, e3, e4⟩ := bind1 (show seqO (f (set g2 x)) (forO set f (xs.drop (i + 1))) = some o from h2)
      refine .inr ⟨hg1, fun σ' H' => ∃ g' S', EnvS X.K S0 S' H' (sl g') σ' ∧ Mv S H1 S' H' ∧ forO set f (xs.drop (i + 1)) g' = some o ∧ Post X.K S0 S' H' sl kr D o, fun σ' H' ⟨g', S', q1, q2, q3, q4⟩ => ⟨m - 1, by omega, g', S', q1, q2, by omega, q3, q4⟩, fun v H3 yl => ?_⟩
      obtain ⟨s3, r3⟩ := hy v H3 yl
      refine ⟨g2, S0, S2, x, E2.same s3, r3, fun σ3 E3 _ => ⟨_, S0, S2, o1, E3, e3, ?_⟩⟩
      have p3 : Post X.K S0 S2 H3 sl kr D o := p2.back (.same s3)
      have mv3 : Mv S H1 S2 H3 := mv.trans (.same s3)
      cases o1 with
      | nx g' => exact fun σ' H' S' E' m' => ⟨g', S', E', mv3.trans m', e4, p3.back m'⟩
      | rt r =>
        cases e4
        exact p3

/-! ### comprehensions -/
def tBs (K : PySem.W.Frag) (sl : Γ → Sl) (f : Γ → Option Bool) : TT := tB K sl f
def PBs (X : Cx) (sl : Γ → Sl) (ifs : List Expr) (f : Γ → Option Bool) : Prop := PTs X ifs (tB X.K sl f)
theorem pbs_nil : PBs X sl [] (fun _ => some true) := PTs.imp pts_nil fun σ H Q ⟨g, S0, S, t, E, hf, q⟩ => by
  cases hf
  exact q H (Same.refl H)
theorem pbs_one {f : Γ → Option Bool} (h : PB X sl e f) : PBs X sl [e] f := PTs.imp (pts_one h) fun σ H Q h => h
def compO (t : Γb → Option Bool) (f : Γb → Option τ) (set : ι → Γb) : List ι → Option (List τ)
  | [] => some []
  | x :: xs => (t (set x)).bind fun c => if c = true then (f (set x)).bind fun y => (compO t f set xs).bind fun ys => some (y :: ys) else compO t f set xs
/-- within a comprehension what is owned is borrowed -/
def toB : Option (Mo × PyData) → Option (Mo × PyData)
  | some (.o, d) => some (.b, d)
  | x => x
def wipeB (l : Sl) (vs : List Nat) : Sl := wipeS (l.map toB) vs
theorem toB_get {l : Sl} {i : Nat} {m : Mo} {d : PyData} (h : (l.map toB)[i]? = some (some (m, d))) : (l[i]? = some (some (m, d)) ∧ m ≠ .o) ∨ (m = .b ∧ l[i]? = some (some (.o, d))) := by
  rw [List.getElem?_map] at h
  cases e : l[i]? with
  | none => rw [e] at h; cases h
  | some x =>
    rw [e] at h
    cases x with
    | none => cases h
    | some y =>
      obtain ⟨m', d'⟩ := y
      cases m' with
      | a => cases h; exact .inl ⟨rfl, nofun⟩
      | b => cases h; exact .inl ⟨rfl, nofun⟩
      | o => cases h; exact .inr ⟨rfl, rfl⟩
def isA (p : Addr) : Ad := fun a => a = p
/-- into a comprehension whose list is at D -/
theorem EnvS.into {K : PySem.W.Frag} {S0 S : Ad} {H H' : Hp} {l : Sl} {σ : L2.St} {p : Addr} (E : EnvS K S0 S H l σ) (s : Same H H') (hp : H p = none) (hp' : H' p ≠ none) (vs : List Nat) : EnvS K (un S S0) (isA p) H' (wipeB l vs) (L2.wipe σ vs) := by
  have mv : Mv (un S S0) H (un (isA p) (un S S0)) H' := fun a o h n => ⟨s a o h, fun z => z.elim (ne_of_none h hp) n⟩
  have top : ∀ {a : Addr} {u : HO}, Rd H a u → Rd H' a u ∧ ¬ isA p a := fun {a u} h => by
    rcases h with h | ⟨o, h⟩
    · exact ⟨.inl (s _ _ h), ne_of_none h hp⟩
    · exact ⟨.inr ⟨o, s _ _ h⟩, ne_of_none h hp⟩
  have noO : ∀ {i : Nat} {d : PyData}, (l.map toB)[i]? ≠ some (some (.o, d)) := fun h => by
    rcases toB_get h with ⟨_, z⟩ | ⟨z, _⟩
    · exact z rfl
    · cases z
  refine ⟨by unfold wipeB; rw [wipeS_len, wipe_length, List.length_map]; exact E.len, fun a h => ?_, fun a h => nn_same s (E.dT a h), fun a h z => ?_, fun i m d h => ?_, fun i j d e v hij hi hj hv => ?_⟩
  · have h : a = p := h
    rw [h]; exact hp'
  · have h : a = p := h
    rw [h] at z
    exact E.dT p z hp
  · obtain ⟨h1, h2⟩ := wipeS_get h
    rw [wipe_out h2]
    rcases toB_get h1 with ⟨h3, h4⟩ | ⟨rfl, h3⟩
    · obtain ⟨v, h5, h6⟩ := E.at_ i m d h3
      refine ⟨v, h5, ?_⟩
      cases m with
      | a => exact Rp.mv mv _ _ h6
      | b =>
        rcases h6 with h6 | ⟨ds, a, xs, e1, e2, e3, e4⟩ | ⟨ds, a, xs, e1, e2, e3, e4⟩
        · exact .inl (Rp.mv mv _ _ h6)
        · exact .inr (.inl ⟨ds, a, xs, e1, e2, top e3.1, e4.mv mv⟩)
        · exact .inr (.inr ⟨ds, a, xs, e1, e2, top e3.1, e4.mv mv⟩)
      | o => exact absurd rfl h4
    · obtain ⟨v, h5, a, rfl, h6, h7⟩ := E.at_ i _ d h3
      refine ⟨_, h5, ?_⟩
      rcases h7 with ⟨ds, xs, e1, e2, e3⟩ | ⟨ds, xs, e1, e2, e3⟩
      · exact .inr (.inl ⟨ds, a, xs, e1, rfl, top (.inl e2), e3.mv mv⟩)
      · exact .inr (.inr ⟨ds, a, xs, e1, rfl, top (.inl e2), e3.mv mv⟩)
  · exact absurd (wipeS_get hi).1 noO
/-- the list under construction grows -/
theorem EnvS.upA {K : PySem.W.Frag} {S0 : Ad} {H : Hp} {l : Sl} {σ : L2.St} {p : Addr} {u : HO} (E : EnvS K S0 (isA p) H l σ) (nq : ∀ (i : Nat) (d : PyData), l[i]? ≠ some (some (.o, d))) : EnvS K S0 (isA p) (upd H p u) l σ := by
  have mv : Mv (isA p) H (isA p) (upd H p u) := fun a o h n => ⟨by rw [upd_ne n]; exact h, n⟩
  have nn : ∀ b, H b ≠ none → upd H p u b ≠ none := fun b h => by
    by_cases hb : b = p
    · subst hb; rw [upd_same]; simp
    · rw [upd_ne hb]; exact h
  refine ⟨E.len, fun a h => nn a (E.dS a h), fun a h => nn a (E.d0 a h), E.ap, fun i m d h => ?_, E.one⟩
  obtain ⟨v, h1, h2⟩ := E.at_ i m d h
  refine ⟨v, h1, ?_⟩
  cases m with
  | a => exact Rp.mv mv.un _ _ h2
  | b => exact Rbs.mv mv h2
  | o => exact absurd h (nq i d)
theorem EnvS.wipeB {K : PySem.W.Frag} {S0 S : Ad} {H : Hp} {l : Sl} {σ : L2.St} (E : EnvS K S0 S H l σ) (vs : List Nat) (nq : ∀ (i : Nat) (d : PyData), l[i]? ≠ some (some (.o, d))) : EnvS K S0 S H (PL.wipeB l vs) (L2.wipe σ vs) := by
  have e : l.map toB = l := by
    apply List.ext_getElem?
    intro i
    rw [List.getElem?_map]
    cases h : l[i]? with
    | none => rfl
    | some x =>
      cases x with
      | none => rfl
      | some y =>
        obtain ⟨m, d⟩ := y
        cases m with
        | a => rfl
        | b => rfl
        | o => exact absurd h (nq i d)
  unfold PL.wipeB
  rw [e]
  exact E.wipe vs
theorem compO_len {t : Γb → Option Bool} {f : Γb → Option τ} {set : ι → Γb} : ∀ {xs : List ι} {ys : List τ}, compO t f set xs = some ys → ys.length ≤ xs.length
  | [], ys, h => by cases h; exact Nat.le_refl _
  | x :: xs, ys, h => by
    obtain ⟨c, h1, h2⟩ := bind1 h
    cases c with
    | true =>
      obtain ⟨y, zs, h3, h4, h5⟩ := bind2 (show ((f (set x)).bind fun y => (compO t f set xs).bind fun ys => some (y :: ys)) = some ys from h2)
      cases h5
      exact Nat.succ_le_succ (compO_len h4)
    | false => exact Nat.le_succ_of_le (compO_len (show compO t f set xs = some ys from h2))
theorem lc_read [Enc ι] [Enc τ] {K : PySem.W.Frag} {vs : List Nat} {fi : Γ → Option (List ι)} {set : Γ → ι → Γb} {js : List Nat} {ft : Γb → Option Bool} {fe : Γb → Option τ} (hj : ∀ i ∈ js, i ∈ vs) {σ : L2.St} {H : Hp} {Q : VK}
    (h : tD K sl .f (fun g => (fi g).bind fun xs => (lNew xs).bind fun xs => compO ft fe (set g) xs) σ H Q) : tLc (tI K sl .b fi) (tG K (fun g => wipeB (sl g) vs) slb set js) (tB K slb ft) (tD K slb .a fe) vs σ H Q := by
  obtain ⟨γ, S0, S, r, E, hf, q⟩ := h
  obtain ⟨xs, e1, e2⟩ := bind1 hf
  obtain ⟨xs', e3, e4⟩ := bind1 e2
  obtain ⟨hz, rfl⟩ := if_some e3
  refine ⟨γ, S0, S, xs, E, e1, fun J H1 s1 ok => fun D hD => ?_⟩
  have E1 := E.same s1
  have mvD : ∀ H2, Same H1 H2 → Mv S H1 (wi S D) H2 := fun H2 s2 => fun a o h n => ⟨s2 a o h, fun z => z.elim n (ne_of_none h hD)⟩
  have hT : ∀ a, wi (un S S0) D a → un (isA D) (un S S0) a := fun a z => z.elim .inr .inl
  have hT2 : ∀ a, un (isA D) (un S S0) a → un (wi S D) S0 a := fun a z => by
    rcases z with z | z | z
    · exact .inl (.inr z)
    · exact .inl (.inl z)
    · exact .inr z
  refine ⟨fun i m H2 => Same H1 H2 ∧ i + m = xs.length ∧ ∃ (done : List τ) (acc : List V) (rest : List τ), H2 D = some (.lst acc) ∧ RpA K H2 (wi (un S S0) D) (done.map enc) acc ∧ done.length ≤ i ∧ compO ft fe (set γ) (xs.drop i) = some rest ∧ done ++ rest = r,
    ⟨xs.length, same_new hD, Nat.zero_add _, [], [], r, upd_same, rfl, Nat.le_refl _, e4, rfl⟩, ?_⟩
  rintro i m H2 ⟨s2, him, done, acc, rest, hacc, hrp, hdl, hrest, hr⟩
  have E2 := E1.into s2 hD (by rw [hacc]; simp) vs
  obtain ⟨hstop, hgo⟩ := ok (wi S D) H2 (mvD H2 s2) (fun _ => s2) (fun a z => E2.dT a (by
    rcases z with (z | z) | z
    · exact .inr (.inl z)
    · exact .inl z
    · exact .inr (.inr z)))
  cases hx : xs[i]? with
  | none =>
    have hi : xs.length ≤ i := List.getElem?_eq_none_iff.mp hx
    rw [List.drop_of_length_le hi] at hrest
    cases hrest
    rw [List.append_nil] at hr
    subst hr
    refine .inl ⟨hstop i hi, q _ H2 (s1.trans s2) ⟨D, rfl, s1.free hD, .inl ⟨_, acc, rfl, hacc, hrp⟩⟩⟩
  | some x =>
    obtain ⟨hi, ex⟩ := List.getElem?_eq_some_iff.mp hx
    obtain ⟨hg1, hy⟩ := hgo i x hx
    rw [List.drop_eq_getElem_cons hi, ex] at hrest
    obtain ⟨cnd, h3, h4⟩ := bind1 hrest
    refine .inr ⟨hg1, fun H' => Same H1 H' ∧ ∃ (done : List τ) (acc : List V) (rest : List τ), H' D = some (.lst acc) ∧ RpA K H' (wi (un S S0) D) (done.map enc) acc ∧ done.length ≤ i + 1 ∧ compO ft fe (set γ) (xs.drop (i + 1)) = some rest ∧ done ++ rest = r, fun H' h => ⟨m - 1, by omega, h.1, by omega, h.2⟩, fun v H3 yl => ?_⟩
    obtain ⟨s3, r3⟩ := hy v H3 yl
    refine ⟨γ, un S S0, isA D, x, E2.same s3, Rp.mv (.less hT2) _ _ r3, fun σ3 E3 hw => ⟨?_, ?_⟩⟩
    · rw [hw _ hj, wipe_wipe]
    · refine ⟨_, un S S0, isA D, cnd, E3, h3, fun H4 s4 => ?_⟩
      have s34 := s3.trans s4
      have hD4 : H4 D = some (.lst acc) := s34 _ _ hacc
      have hrp4 : RpA K H4 (wi (un S S0) D) (done.map enc) acc := hrp.mv (.same s34)
      cases cnd with
      | false => exact iteF ⟨s2.trans s34, done, acc, rest, hD4, hrp4, Nat.le_succ_of_le hdl, h4, hr⟩
      | true =>
        obtain ⟨y, ys, h5, h6, h7⟩ := bind2 (show ((fe (set γ x)).bind fun y => (compO ft fe (set γ) (xs.drop (i + 1))).bind fun ys => some (y :: ys)) = some rest from h4)
        cases h7
        refine iteT ⟨_, un S S0, isA D, y, E3.same s4, h5, fun w H5 s5 r5 => ?_⟩
        have hD5 : H5 D = some (.lst acc) := s5 _ _ hD4
        have hrp5 : RpA K H5 (wi (un S S0) D) (done.map enc) acc := hrp4.mv (.same s5)
        refine ⟨acc, hD5, by rw [map_len hrp5]; omega, ?_⟩
        have mv5 : Mv (wi (un S S0) D) H5 (wi (un S S0) D) (upd H5 D (.lst (acc ++ [w]))) := fun a o h n => ⟨by rw [upd_ne fun z => n (.inr z)]; exact h, n⟩
        refine ⟨fun a o h => ?_, done ++ [y], acc ++ [w], ys, upd_same, ?_, by rw [List.length_append]; exact Nat.succ_le_succ hdl, h6, by rw [List.append_assoc]; exact hr⟩
        · rw [upd_ne (ne_of_none h hD)]
          exact (s2.trans (s34.trans s5)) a o h
        · rw [List.map_append]
          exact (hrp5.mv mv5).append (.one (Rp.mv ((Mv.less hT).trans mv5) _ _ r5))
section
variable [Enc ι] [Enc τ] {elt tg iter : Expr} {ifs : List Expr} {scope : Scope} {own : List (Str × Nat)} {fi : Γ → Option (List ι)} {set : Γ → ι → Γb} {js : List Nat} {ft : Γb → Option Bool} {fe : Γb → Option τ}
theorem pv_lc (hN : X.N.Nodup)
    (hi : IV X sl .b tg iter fi) (ok : BlkOk X.N X.env.scope scope own) (hj : ∀ i ∈ js, i ∈ own.map (·.2))
    (hg : ∀ (s : Shared) (H : Hp) (C : Addr) (cl : List (Str × Addr)) (fp : List Addr), GV (X.blk s H scope (compEnvC scope cl C X.env) fp) (fun g => wipeB (sl g) (own.map (·.2))) slb tg set js)
    (ht : ∀ (s : Shared) (H : Hp) (C : Addr) (cl : List (Str × Addr)) (fp : List Addr), PBs (X.blk s H scope (compEnvC scope cl C X.env) fp) slb ifs ft)
    (he : ∀ (s : Shared) (H : Hp) (C : Addr) (cl : List (Str × Addr)) (fp : List Addr), PV (X.blk s H scope (compEnvC scope cl C X.env) fp) slb .a elt fe) (hc : X.calm = true := by rfl) (hs : ∀ x, foldedSetIterable iter X.env x = pure x := by intro _; rfl) :
    PV X sl .f (.ListComp elt [⟨tg, iter, ifs, 0⟩] scope pos) (fun g => (fi g).bind fun xs => (lNew xs).bind fun xs => compO ft fe (set g) xs) :=
  PE.imp (pe_lc (g := tG X.K (fun g => wipeB (sl g) (own.map fun q : Str × Nat => q.2)) slb set js) (tt := tB X.K slb ft) (te := tD X.K slb .a fe) hc hN hi ok hg ht he hs) fun σ H Q h => lc_read hj h
variable [Enc ρ] {i : Nat} {y : Str} {py spos : Pos}
/-- y = [..] on one line, y owned; y shared -/
theorem sv_ownLc (st : Γ → List τ → Γ') (h : ∀ g t, sl' (st g t) = (sl g).set i (some (.o, enc t))) (hN : X.N.Nodup)
    (hi : IV X sl .b tg iter fi) (ok : BlkOk X.N X.env.scope scope own) (hj : ∀ i ∈ js, i ∈ own.map (·.2))
    (hg : ∀ (s : Shared) (H : Hp) (C : Addr) (cl : List (Str × Addr)) (fp : List Addr), GV (X.blk s H scope (compEnvC scope cl C X.env) fp) (fun g => wipeB (sl g) (own.map (·.2))) slb tg set js)
    (ht : ∀ (s : Shared) (H : Hp) (C : Addr) (cl : List (Str × Addr)) (fp : List Addr), PBs (X.blk s H scope (compEnvC scope cl C X.env) fp) slb ifs ft)
    (he : ∀ (s : Shared) (H : Hp) (C : Addr) (cl : List (Str × Addr)) (fp : List Addr), PV (X.blk s H scope (compEnvC scope cl C X.env) fp) slb .a elt fe)
    (hy : X.N[i]? = some y := by rfl) (hyl : X.env.scope.names.lookup y = some .local := by rfl)
    (hsw : swapsWith (.ListComp elt [⟨tg, iter, ifs, 0⟩] scope pos) (some (.Name y py)) spos.line X.env = pure true := by exact sw_true rfl rfl rfl (by decide +kernel)) (hc : X.calm = true := by rfl) (hs : ∀ x, foldedSetIterable iter X.env x = pure x := by intro _; rfl) :
    SV (ρ := ρ) X sl sl' kr (.Assign [.Name y py] (.ListComp elt [⟨tg, iter, ifs, 0⟩] scope pos) spos) (fun g => ((fi g).bind fun xs => (lNew xs).bind fun xs => compO ft fe (set g) xs).bind fun t => some (.nx (st g t))) :=
  PS.imp (ps_setLc (g := tG X.K (fun g => wipeB (sl g) (own.map fun q : Str × Nat => q.2)) slb set js) (tt := tB X.K slb ft) (te := tD X.K slb .a fe) hc hN hy hyl hsw hi ok hg ht he hs) fun D σ H ⟨γ, S0, S, o, E, hf, p⟩ => by
    obtain ⟨t, e1, e2⟩ := bind1 hf
    cases e2
    refine lc_read hj ⟨γ, S0, S, t, E, e1, fun v H' s r => ?_⟩
    obtain ⟨S', m, E'⟩ := E.seto (i := i) s r
    refine p _ _ S' ?_ m
    rw [h]
    exact E'
theorem sv_setLc (st : Γ → List τ → Γ') (h : ∀ g t, sl' (st g t) = (sl g).set i (some (.a, enc t))) (hN : X.N.Nodup)
    (hi : IV X sl .b tg iter fi) (ok : BlkOk X.N X.env.scope scope own) (hj : ∀ i ∈ js, i ∈ own.map (·.2))
    (hg : ∀ (s : Shared) (H : Hp) (C : Addr) (cl : List (Str × Addr)) (fp : List Addr), GV (X.blk s H scope (compEnvC scope cl C X.env) fp) (fun g => wipeB (sl g) (own.map (·.2))) slb tg set js)
    (ht : ∀ (s : Shared) (H : Hp) (C : Addr) (cl : List (Str × Addr)) (fp : List Addr), PBs (X.blk s H scope (compEnvC scope cl C X.env) fp) slb ifs ft)
    (he : ∀ (s : Shared) (H : Hp) (C : Addr) (cl : List (Str × Addr)) (fp : List Addr), PV (X.blk s H scope (compEnvC scope cl C X.env) fp) slb .a elt fe)
    (hy : X.N[i]? = some y := by rfl) (hyl : X.env.scope.names.lookup y = some .local := by rfl)
    (hsw : swapsWith (.ListComp elt [⟨tg, iter, ifs, 0⟩] scope pos) (some (.Name y py)) spos.line X.env = pure true := by exact sw_true rfl rfl rfl (by decide +kernel)) (hc : X.calm = true := by rfl) (hs : ∀ x, foldedSetIterable iter X.env x = pure x := by intro _; rfl) :
    SV (ρ := ρ) X sl sl' kr (.Assign [.Name y py] (.ListComp elt [⟨tg, iter, ifs, 0⟩] scope pos) spos) (fun g => ((fi g).bind fun xs => (lNew xs).bind fun xs => compO ft fe (set g) xs).bind fun t => some (.nx (st g t))) :=
  PS.imp (ps_setLc (g := tG X.K (fun g => wipeB (sl g) (own.map fun q : Str × Nat => q.2)) slb set js) (tt := tB X.K slb ft) (te := tD X.K slb .a fe) hc hN hy hyl hsw hi ok hg ht he hs) fun D σ H ⟨γ, S0, S, o, E, hf, p⟩ => by
    obtain ⟨t, e1, e2⟩ := bind1 hf
    cases e2
    refine lc_read hj ⟨γ, S0, S, t, E, e1, fun v H' s r => ?_⟩
    refine p _ _ S ?_ (.same s)
    rw [h]
    exact (E.same s).seta (Fr.rp r E.dT)
end
/-! ### two clauses -/
def compO2 {Γc : Type} {κ : Type} (t : Γb → Option Bool) (it1 : Γb → Option (List κ)) (t1 : Γc → Option Bool) (f : Γc → Option τ) (set : ι → Γb) (set1 : Γb → κ → Γc) : List ι → Option (List τ)
  | [] => some []
  | x :: xs => (t (set x)).bind fun c => if c = true then (it1 (set x)).bind fun ys => (compO t1 f (set1 (set x)) ys).bind fun zs => (compO2 t it1 t1 f set set1 xs).bind fun r => some (zs ++ r) else compO2 t it1 t1 f set set1 xs
theorem lc2_read {κ : Type} [Enc ι] [Enc κ] [Enc τ] {K : PySem.W.Frag} {vs vs1 : List Nat} {fi : Γ → Option (List ι)} {set : Γ → ι → Γb} {js js1 : List Nat} {ft : Γb → Option Bool} {fi1 : Γb → Option (List κ)} {set1 : Γb → κ → Γc} {ft1 : Γc → Option Bool} {fe : Γc → Option τ} (hj : ∀ i ∈ js, i ∈ vs) (hj1 : ∀ i ∈ js1, i ∈ vs1) (hno : ∀ (g : Γb) (i : Nat) (d : PyData), (slb g)[i]? ≠ some (some (.o, d))) {σ : L2.St} {H : Hp} {Q : VK}
    (h : tD K sl .f (fun g => ((fi g).bind fun xs => compO2 ft fi1 ft1 fe (set g) set1 xs).bind fun r => lNew r) σ H Q) :
    tLc2 (tI K sl .b fi) (tG K (fun g => wipeB (sl g) vs) slb set js) (tB K slb ft) (tI K slb .a fi1) (tG K (fun g => wipeB (slb g) vs1) slc set1 js1) (tB K slc ft1) (tD K slc .a fe) vs vs1 σ H Q := by
  obtain ⟨γ, S0, S, r, E, hf, q⟩ := h
  obtain ⟨r', e0, e9⟩ := bind1 hf
  obtain ⟨hz, rfl⟩ := if_some e9
  obtain ⟨xs, e1, e4⟩ := bind1 e0
  refine ⟨γ, S0, S, xs, E, e1, fun J H1 s1 ok => fun D hD => ?_⟩
  have E1 := E.same s1
  have mvD : ∀ H2, Same H1 H2 → Mv S H1 (wi S D) H2 := fun H2 s2 => fun a o h n => ⟨s2 a o h, fun z => z.elim n (ne_of_none h hD)⟩
  have hT : ∀ a, wi (un S S0) D a → un (isA D) (un S S0) a := fun a z => z.elim .inr .inl
  have hT2 : ∀ a, un (isA D) (un S S0) a → un (wi S D) S0 a := fun a z => by
    rcases z with z | z | z
    · exact .inl (.inr z)
    · exact .inl (.inl z)
    · exact .inr z
  refine ⟨fun i m H2 => Same H1 H2 ∧ i + m = xs.length ∧ ∃ (done : List τ) (acc : List V) (rest : List τ), H2 D = some (.lst acc) ∧ RpA K H2 (wi (un S S0) D) (done.map enc) acc ∧ compO2 ft fi1 ft1 fe (set γ) set1 (xs.drop i) = some rest ∧ done ++ rest = r',
    ⟨xs.length, same_new hD, Nat.zero_add _, [], [], r', upd_same, rfl, e4, rfl⟩, ?_⟩
  rintro i m H2 ⟨s2, him, done, acc, rest, hacc, hrp, hrest, hr⟩
  have E2 := E1.into s2 hD (by rw [hacc]; simp) vs
  obtain ⟨hstop, hgo⟩ := ok (wi S D) H2 (mvD H2 s2) (fun _ => s2) (fun a z => E2.dT a (by
    rcases z with (z | z) | z
    · exact .inr (.inl z)
    · exact .inl z
    · exact .inr (.inr z)))
  cases hx : xs[i]? with
  | none =>
    have hi : xs.length ≤ i := List.getElem?_eq_none_iff.mp hx
    rw [List.drop_of_length_le hi] at hrest
    cases hrest
    rw [List.append_nil] at hr
    subst hr
    refine .inl ⟨hstop i hi, q _ H2 (s1.trans s2) ⟨D, rfl, s1.free hD, .inl ⟨_, acc, rfl, hacc, hrp⟩⟩⟩
  | some x =>
    obtain ⟨hi, ex⟩ := List.getElem?_eq_some_iff.mp hx
    obtain ⟨hg1, hy⟩ := hgo i x hx
    rw [List.drop_eq_getElem_cons hi, ex] at hrest
    obtain ⟨cnd, h3, h4⟩ := bind1 hrest
    refine .inr ⟨hg1, fun H' => Same H1 H' ∧ ∃ (done : List τ) (acc : List V) (rest : List τ), H' D = some (.lst acc) ∧ RpA K H' (wi (un S S0) D) (done.map enc) acc ∧ compO2 ft fi1 ft1 fe (set γ) set1 (xs.drop (i + 1)) = some rest ∧ done ++ rest = r', fun H' h => ⟨m - 1, by omega, h.1, by omega, h.2⟩, fun v H3 yl => ?_⟩
    obtain ⟨s3, r3⟩ := hy v H3 yl
    refine ⟨γ, un S S0, isA D, x, E2.same s3, Rp.mv (.less hT2) _ _ r3, fun σ3 E3 hw => ⟨?_, ?_⟩⟩
    · rw [hw _ hj, wipe_wipe]
    · refine ⟨_, un S S0, isA D, cnd, E3, h3, fun H4 s4 => ?_⟩
      have s34 := s3.trans s4
      have hD4 : H4 D = some (.lst acc) := s34 _ _ hacc
      have hrp4 : RpA K H4 (wi (un S S0) D) (done.map enc) acc := hrp.mv (.same s34)
      cases cnd with
      | false => exact iteF ⟨s2.trans s34, done, acc, rest, hD4, hrp4, h4, hr⟩
      | true =>
        obtain ⟨ys, h5, h4⟩ := bind1 (show ((fi1 (set γ x)).bind fun ys => (compO ft1 fe (set1 (set γ x)) ys).bind fun zs => (compO2 ft fi1 ft1 fe (set γ) set1 (xs.drop (i + 1))).bind fun r => some (zs ++ r)) = some rest from h4)
        obtain ⟨zs, rr, h6, h8, h9⟩ := bind2 h4
        cases h9
        refine iteT ⟨_, un S S0, isA D, ys, E3.same s4, h5, fun J1 H5 s5 ok1 => ?_⟩
        have hD5 : H5 D = some (.lst acc) := s5 _ _ hD4
        have hrp5 : RpA K H5 (wi (un S S0) D) (done.map enc) acc := hrp4.mv (.same s5)
        have E5 := (E3.same s4).same s5
        have s15 : Same H1 H5 := s2.trans (s34.trans s5)
        -- the inner walk: H5 and what D grew by
        refine ⟨fun j m H6 => Mv (isA D) H5 (isA D) H6 ∧ Same H1 H6 ∧ (∀ a, H5 a ≠ none → H6 a ≠ none) ∧ j + m = ys.length ∧ ∃ (dn : List τ) (ac : List V) (rs : List τ), H6 D = some (.lst ac) ∧ RpA K H6 (wi (un S S0) D) (dn.map enc) ac ∧ compO ft1 fe (set1 (set γ x)) (ys.drop j) = some rs ∧ dn ++ rs ++ rr = r' ∧ EnvS K (un S S0) (isA D) H6 (slb (set γ x)) σ3,
          ⟨ys.length, .refl, s15, fun _ z => z, Nat.zero_add _, done, acc, zs, hD5, hrp5, h6, by rw [List.append_assoc]; exact hr, E5⟩, ?_⟩
        rintro j m1 H6 ⟨mv6, s6, nn6, hjm, dn, ac, rs, hD6, hrp6, hrs, hr6, E6⟩
        obtain ⟨hstop1, hgo1⟩ := ok1 (isA D) H6 mv6 (fun z => nomatch z) E6.dT
        cases hy1 : ys[j]? with
        | none =>
          have hi1 : ys.length ≤ j := List.getElem?_eq_none_iff.mp hy1
          rw [List.drop_of_length_le hi1] at hrs
          cases hrs
          exact .inl ⟨hstop1 j hi1, s6, dn, ac, rr, hD6, hrp6, h8, by rw [List.append_nil] at hr6; exact hr6⟩
        | some y =>
          obtain ⟨hi1, ey⟩ := List.getElem?_eq_some_iff.mp hy1
          obtain ⟨hg2, hy2⟩ := hgo1 j y hy1
          rw [List.drop_eq_getElem_cons hi1, ey] at hrs
          obtain ⟨cn1, k3, k4⟩ := bind1 hrs
          refine .inr ⟨hg2, fun H' => Mv (isA D) H5 (isA D) H' ∧ Same H1 H' ∧ (∀ a, H5 a ≠ none → H' a ≠ none) ∧ ∃ (dn : List τ) (ac : List V) (rs : List τ), H' D = some (.lst ac) ∧ RpA K H' (wi (un S S0) D) (dn.map enc) ac ∧ compO ft1 fe (set1 (set γ x)) (ys.drop (j + 1)) = some rs ∧ dn ++ rs ++ rr = r' ∧ EnvS K (un S S0) (isA D) H' (slb (set γ x)) σ3, fun H' h => ⟨m1 - 1, by omega, h.1, h.2.1, h.2.2.1, by omega, h.2.2.2⟩, fun v H7 yl => ?_⟩
          obtain ⟨s7, r7⟩ := hy2 v H7 yl
          have E7 := E6.same s7
          refine ⟨_, un S S0, isA D, y, E7.wipeB vs1 (hno _), r7, fun σ8 E8 hw1 => ⟨?_, ?_⟩⟩
          · rw [hw1 _ hj1, wipe_wipe]
          · refine ⟨_, un S S0, isA D, cn1, E8, k3, fun H8 s8 => ?_⟩
            have s78 := s7.trans s8
            have hD8 : H8 D = some (.lst ac) := s78 _ _ hD6
            have hrp8 : RpA K H8 (wi (un S S0) D) (dn.map enc) ac := hrp6.mv (.same s78)
            cases cn1 with
            | false => exact iteF ⟨mv6.trans (.same s78), s6.trans s78, fun a z => nn_same s78 (nn6 a z), dn, ac, rs, hD8, hrp8, k4, hr6, E6.same s78⟩
            | true =>
              obtain ⟨t, ts, k5, k6, k7⟩ := bind2 (show ((fe (set1 (set γ x) y)).bind fun y => (compO ft1 fe (set1 (set γ x)) (ys.drop (j + 1))).bind fun ys => some (y :: ys)) = some rs from k4)
              cases k7
              refine iteT ⟨_, un S S0, isA D, t, E8.same s8, k5, fun u H9 s9 r9 => ?_⟩
              have s69 := s78.trans s9
              have hD9 : H9 D = some (.lst ac) := s9 _ _ hD8
              have hrp9 : RpA K H9 (wi (un S S0) D) (dn.map enc) ac := hrp8.mv (.same s9)
              refine ⟨ac, hD9, ?_, ?_⟩
              · rw [map_len hrp9]
                have : r'.length ≤ sizeLine := hz
                rw [← hr6] at this
                simp only [List.length_append, List.length_cons] at this
                omega
              · have mvA : Mv (wi (un S S0) D) H9 (wi (un S S0) D) (upd H9 D (.lst (ac ++ [u]))) := fun a o h n => ⟨by rw [upd_ne fun z => n (.inr z)]; exact h, n⟩
                have mvB : Mv (isA D) H9 (isA D) (upd H9 D (.lst (ac ++ [u]))) := fun a o h n => ⟨by rw [upd_ne n]; exact h, n⟩
                have s1' : Same H1 (upd H9 D (.lst (ac ++ [u]))) := fun a o h => by
                  rw [upd_ne (ne_of_none h hD)]
                  exact (s6.trans s69) a o h
                refine ⟨(mv6.trans (.same s69)).trans mvB, s1', fun a z => ?_, dn ++ [t], ac ++ [u], ts, upd_same, ?_, k6, by simpa using hr6, ?_⟩
                · by_cases ha : a = D
                  · subst ha; rw [upd_same]; simp
                  · rw [upd_ne ha]; exact nn_same s69 (nn6 a z)
                · rw [List.map_append]
                  exact (hrp9.mv mvA).append (.one (Rp.mv ((Mv.less hT).trans mvA) _ _ r9))
                · exact (E6.same s69).upA (hno _)
end PL

/-! PL8: defs and their calls. -/
namespace PL
open PySem PySem.Spec L2
open Enc (enc)

variable {Γ Γ' Γ'' ρ τ α β A B : Type} {X : Cx} {sl : Γ → Sl} {sl' : Γ' → Sl} {e : Expr} {es : List Expr} {k1 : Kd} {pos : Pos} {kr : Kd}

/-- a def's promise: the plain function F of its arguments; sl0 tells the arguments' slots -/
def spF [Enc ρ] (K : PySem.W.Frag) (N : List Str) (n : Nat) (sl0 : A → Sl) (kr : Kd) (F : A → Option ρ) : Sp := fun vs H Q _ =>
  vs.length = n ∧ ∃ (g : A) (S0 : Ad) (r : ρ), EnvS K S0 no H (sl0 g) (L2.start N vs) ∧ F g = some r ∧ ∀ v H', RetV kr K S0 no H H' (enc r) v → Q v H'
/-- what a body's plain reading gives its caller -/
def outF (d : Option ρ) (x : Option (Out Γ ρ)) : Option ρ := x.bind fun o => match o with
  | .rt r => some r
  | .nx _ => d
section
variable {P : Program} {w : World} {K : PySem.W.Frag} {mg : Str → Option Value} {base : Heap}
theorem fn_v [Enc ρ] {x qual : Str} {st : Stmt} {f : Addr} {fd : FuncData} {N ps : List Str} {k n : Nat} {sl0 : A → Sl} {slE : Γ → Sl} {fb : A → Option (Out Γ ρ)} {F : A → Option ρ} (dn : Option ρ) (Fn : Fun K x qual st f fd) (S : FnScope N ps (defScope st)) (hn : ps.length = n := by rfl)
    (hdn : ∀ r, dn = some r → enc r = .none) (hk : kr = .a ∨ kr = .f ∧ dn = none)
    (hF : ∀ g, F g = outF dn (fb g))
    (hb : ∀ (cdv : Value) (A : Around) (outer : List Env) (s : Shared) (H : Hp) (E : XK), Room k (A.deeper (PyProof.Rows.envOfC qual (defScope st) s.heap.objs.size f cdv)) →
      BV (cxOf CX0 P w K mg base N qual (defScope st) f cdv A outer s H E).nox sl0 slE kr (defBody st) fb) :
    FnOk P w K mg base CX0 (k + 1) f fd ps (spF K N n sl0 kr F) := by
  refine Fn.ok S (fun vs H Q E h => h.1.trans hn.symm) fun cdv A outer s H vs Q E hr h => ?_
  obtain ⟨hl, g, S0, r, En, hFr, q⟩ := h
  refine ⟨_, hb cdv A outer s H E hr, ?_⟩
  rw [hF] at hFr
  obtain ⟨o, h1, h2⟩ := bind1 hFr
  refine ⟨g, S0, no, o, En, h1, ?_⟩
  cases o with
  | rt r' =>
    cases h2
    exact q
  | nx g' =>
    have h2 : dn = some r := h2
    rcases hk with rfl | ⟨_, e⟩
    · exact fun σ' H' S' _ m => q .non H' ⟨m.no, by rw [hdn r h2]; rfl⟩
    · rw [e] at h2; cases h2
/-- a def that is never called with arguments for which F is told -/
theorem fn_none [Enc ρ] {f : Addr} {fd : FuncData} {N ps : List Str} {k n : Nat} {sl0 : A → Sl} {CX : CXT} (hn : ps.length = n := by rfl) : FnOk P w K mg base CX k f fd ps (spF K N n sl0 kr (fun _ : A => (none : Option ρ))) :=
  ⟨fun vs H Q E h => h.1.trans hn.symm, fun A outer s H args us vs Q E _ _ _ _ h => by
    obtain ⟨_, _, _, _, _, h, _⟩ := h
    cases h⟩
end

/-! ### arguments -/
def ArgV (K : PySem.W.Frag) (H : Hp) (T : Ad) : Mo → PyData → V → Prop
  | .a, d, v => Rp K H T d v
  | .b, d, v => Rb K H T d v
  | .o, _, _ => False
def ArgsR (K : PySem.W.Frag) (H : Hp) (T : Ad) : List Mo → List PyData → List V → Prop
  | [], [], [] => True
  | m :: ms, d :: ds, v :: vs => ArgV K H T m d v ∧ ArgsR K H T ms ds vs
  | _, _, _ => False
theorem ArgV.same {K : PySem.W.Frag} {H H' : Hp} {T : Ad} {m : Mo} {d : PyData} {v : V} (s : Same H H') (h : ArgV K H T m d v) : ArgV K H' T m d v := by
  cases m with
  | a => exact Rp.mv (.same s) _ _ h
  | b => exact Rb.mv (.same s) h s
  | o => exact h
def slOf : List Mo → List PyData → Sl
  | m :: ms, d :: ds => some (m, d) :: slOf ms ds
  | _, _ => []
theorem env_start {K : PySem.W.Frag} {H : Hp} {T : Ad} {ms : List Mo} {ds : List PyData} {vs : List V} {N : List Str} {j : Nat} (h : ArgsR K H T ms ds vs) (hT : ∀ a, T a → H a ≠ none) (hN : N.length = ms.length + j) :
    EnvS K T no H (slOf ms ds ++ List.replicate j none) (L2.start N vs) ∧ vs.length = ms.length := by
  have len : ∀ {ms : List Mo} {ds : List PyData} {vs : List V}, ArgsR K H T ms ds vs → vs.length = ms.length ∧ (slOf ms ds).length = ms.length := by
    intro ms
    induction ms with
    | nil =>
      intro ds vs h
      cases ds <;> cases vs <;> simp [ArgsR] at h
      exact ⟨rfl, rfl⟩
    | cons m ms ih =>
      intro ds vs h
      cases ds with
      | nil => simp [ArgsR] at h
      | cons d ds =>
        cases vs with
        | nil => simp [ArgsR] at h
        | cons v vs =>
          obtain ⟨h1, h2⟩ := ih h.2
          exact ⟨by simp [h1], by simp [slOf, h2]⟩
  have get : ∀ {ms : List Mo} {ds : List PyData} {vs : List V} {i : Nat} {m : Mo} {d : PyData}, ArgsR K H T ms ds vs → (slOf ms ds)[i]? = some (some (m, d)) → ∃ v, vs[i]? = some v ∧ ArgV K H T m d v := by
    intro ms
    induction ms with
    | nil => intro ds vs i m d h e; simp [slOf] at e
    | cons m0 ms ih =>
      intro ds vs i m d h e
      cases ds with
      | nil => simp [ArgsR] at h
      | cons d0 ds =>
        cases vs with
        | nil => simp [ArgsR] at h
        | cons v vs =>
          cases i with
          | zero =>
            have e : some (some (m0, d0)) = some (some (m, d)) := e
            cases e
            exact ⟨v, rfl, h.1⟩
          | succ i => exact ih (ds := ds) (vs := vs) (i := i) h.2 e
  obtain ⟨l1, l2⟩ := len h
  have at2 : ∀ {i : Nat} {m : Mo} {d : PyData}, (slOf ms ds ++ List.replicate j none)[i]? = some (some (m, d)) → ∃ v, (L2.start N vs)[i]? = some (some v) ∧ ArgV K H T m d v := fun {i m d} e => by
    by_cases hi : i < (slOf ms ds).length
    · rw [List.getElem?_append_left hi] at e
      obtain ⟨v, h1, h2⟩ := get h e
      refine ⟨v, ?_, h2⟩
      unfold L2.start
      rw [List.getElem?_append_left (by simp; omega), List.getElem?_map, h1]
      rfl
    · rw [List.getElem?_append_right (by omega), List.getElem?_replicate] at e
      split at e <;> cases e
  have hno : ∀ {d : PyData} {v : V}, Rp K H T d v → Rp K H (un no T) d v := fun h => Rp.mv (.less fun a z => z.elim False.elim id) _ _ h
  have hnoA : ∀ {d : List PyData} {v : List V}, RpA K H T d v → RpA K H (un no T) d v := fun h => RpA.mv (.less fun a z => z.elim False.elim id) _ _ h
  have hnoK : ∀ {d : List (PyData × PyData)} {v : List (Key × V)}, RpK K H T d v → RpK K H (un no T) d v := fun h => RpK.mv (.less fun a z => z.elim False.elim id) _ _ h
  refine ⟨⟨?_, fun a z => z.elim, hT, fun a z => z.elim, fun i m d e => ?_, fun i i' d d' v _ e _ _ => ?_⟩, l1⟩
  · unfold L2.start
    simp
    omega
  · obtain ⟨v, h1, h2⟩ := at2 e
    refine ⟨v, h1, ?_⟩
    cases m with
    | a => exact hno h2
    | b =>
      rcases h2 with h2 | ⟨ds, a, xs, e1, e2, e3, e4⟩ | ⟨ds, a, xs, e1, e2, e3, e4⟩
      · exact .inl (hno h2)
      · exact .inr (.inl ⟨ds, a, xs, e1, e2, ⟨e3, fun z => z⟩, hnoA e4⟩)
      · exact .inr (.inr ⟨ds, a, xs, e1, e2, ⟨e3, fun z => z⟩, hnoK e4⟩)
    | o => exact h2.elim
  · obtain ⟨_, _, h2⟩ := at2 e
    exact h2.elim
def tAg (K : PySem.W.Frag) (sl : Γ → Sl) (ms : List Mo) (en : A → List PyData) (f : Γ → Option A) : TA := fun σ H Q =>
  ∃ (g : Γ) (S0 S : Ad) (t : A), EnvS K S0 S H (sl g) σ ∧ f g = some t ∧ ∀ vs H', Same H H' → ArgsR K H' (un S S0) ms (en t) vs → Q vs H'
def AV (X : Cx) (sl : Γ → Sl) (ms : List Mo) (es : List Expr) (en : A → List PyData) (f : Γ → Option A) : Prop := PA X es (tAg X.K sl ms en f)
theorem ArgsR.same {K : PySem.W.Frag} {H H' : Hp} {T : Ad} (s : Same H H') : ∀ {ms : List Mo} {ds : List PyData} {vs : List V}, ArgsR K H T ms ds vs → ArgsR K H' T ms ds vs
  | [], [], [], h => h
  | m :: ms, d :: ds, v :: vs, h => ⟨h.1.same s, ArgsR.same s h.2⟩
theorem av_nil : AV X sl [] [] (fun _ : Unit => []) (fun _ => some ()) := PA.imp pa_nil fun σ H Q ⟨g, S0, S, t, E, hf, q⟩ => q [] H (Same.refl H) trivial
section
variable [Enc τ] {f : Γ → Option τ} {g : Γ → Option A} {ms : List Mo} {en : A → List PyData}
theorem av_a (h : PV X sl .a e f) (hr : AV X sl ms es en g) (hs : starEach (e :: es) X.env = (false, eval e X.env) :: starEach es X.env := by rfl) :
    AV X sl (.a :: ms) (e :: es) (fun t : τ × A => enc t.1 :: en t.2) (fun s => (f s).bind fun x => (g s).bind fun r => some (x, r)) := PA.imp (pa_cons h hr hs) fun σ H Q ⟨γ, S0, S, t, E, hf, q⟩ => by
  obtain ⟨x, r, h1, h2, h3⟩ := bind2 hf
  cases h3
  exact ⟨γ, S0, S, x, E, h1, fun v H1 s1 r1 => ⟨γ, S0, S, r, E.same s1, h2, fun vs H2 s2 r2 => q _ H2 (s1.trans s2) ⟨ArgV.same (m := .a) s2 r1, r2⟩⟩⟩
theorem av_b (h : PV X sl .b e f) (hr : AV X sl ms es en g) (hs : starEach (e :: es) X.env = (false, eval e X.env) :: starEach es X.env := by rfl) :
    AV X sl (.b :: ms) (e :: es) (fun t : τ × A => enc t.1 :: en t.2) (fun s => (f s).bind fun x => (g s).bind fun r => some (x, r)) := PA.imp (pa_cons h hr hs) fun σ H Q ⟨γ, S0, S, t, E, hf, q⟩ => by
  obtain ⟨x, r, h1, h2, h3⟩ := bind2 hf
  cases h3
  exact ⟨γ, S0, S, x, E, h1, fun v H1 s1 r1 => ⟨γ, S0, S, r, E.same s1, h2, fun vs H2 s2 r2 => q _ H2 (s1.trans s2) ⟨ArgV.same (m := .b) s2 r1, r2⟩⟩⟩
end
section
variable [Enc ρ] {k n : Nat} {f : Addr} {fd : FuncData} {ps N : List Str} {x : Str} {p : Pos} {F : A → Option ρ} {sl0 : A → Sl} {g : Γ → Option A} {ms : List Mo} {en : A → List PyData}
theorem ret_a {K : PySem.W.Frag} {T : Ad} {H H' : Hp} {d : PyData} {v : V} (h : RetV .a K T no H H' d v) : Same H H' ∧ Rp K H' T d v := ⟨fun a o e => (h.1 a o e (fun z => z)).1, h.2⟩
theorem ret_f {K : PySem.W.Frag} {T : Ad} {H H' : Hp} {d : PyData} {v : V} (h : RetV .f K T no H H' d v) : Same H H' ∧ Fr K H H' T d v := by
  refine ⟨fun a o e => (h.1 a o e (fun z => z)).1, ?_⟩
  obtain ⟨p, rfl, h1, h2, h3⟩ := h.2
  refine ⟨p, rfl, ?_, h3⟩
  cases hq : H p with
  | none => rfl
  | some o => exact (h1 (by rw [hq]; simp)).elim
theorem pv_calla (G : FnOk X.prog X.w X.K X.mg X.base CX0 k f fd ps (spF X.K N n sl0 .a F)) (hr : Room k X.A) (hg : Gl X x) (hm : X.mg x = some (.ref f)) (hk : PySem.W.keepIn X.K (.ref f) = true) (hb : Binds X.K fd ps []) (ha : AV X sl ms (e :: es) en g)
    (h0 : ∀ t, ∃ j, sl0 t = slOf ms (en t) ++ List.replicate j none ∧ N.length = ms.length + j) (hn : ms.length = n := by rfl) (hdb : (x == ("__debug__" : Str)) = false := by decide)
    (he : starEach (e :: es) X.env = (false, eval e X.env) :: starEach es X.env := by rfl) (hpl : (backTo pos (starEach es X.env)).any (·.1) = false := by rfl) :
    PV X sl .a (.Call (.Name x p) (e :: es) [] pos) (fun s => (g s).bind fun t => F t) := PE.imp (pe_call (E := E0) G hr hg hm hk hb .nil pass0 ha hdb he hpl) fun σ H Q ⟨γ, S0, S, r, E, hf, q⟩ => by
  obtain ⟨t, h1, h2⟩ := bind1 hf
  refine ⟨γ, S0, S, t, E, h1, fun vs H1 s1 r1 => ?_⟩
  obtain ⟨j, e1, e2⟩ := h0 t
  obtain ⟨E2, hl⟩ := env_start r1 (E.same s1).dT e2
  rw [List.append_nil]
  refine ⟨hl.trans hn, t, _, r, by rw [e1]; exact E2, h2, fun v H' rv => ?_⟩
  obtain ⟨s2, r2⟩ := ret_a rv
  exact q v H' (s1.trans s2) r2
theorem pv_callf (G : FnOk X.prog X.w X.K X.mg X.base CX0 k f fd ps (spF X.K N n sl0 .f F)) (hr : Room k X.A) (hg : Gl X x) (hm : X.mg x = some (.ref f)) (hk : PySem.W.keepIn X.K (.ref f) = true) (hb : Binds X.K fd ps []) (ha : AV X sl ms (e :: es) en g)
    (h0 : ∀ t, ∃ j, sl0 t = slOf ms (en t) ++ List.replicate j none ∧ N.length = ms.length + j) (hn : ms.length = n := by rfl) (hdb : (x == ("__debug__" : Str)) = false := by decide)
    (he : starEach (e :: es) X.env = (false, eval e X.env) :: starEach es X.env := by rfl) (hpl : (backTo pos (starEach es X.env)).any (·.1) = false := by rfl) :
    PV X sl .f (.Call (.Name x p) (e :: es) [] pos) (fun s => (g s).bind fun t => F t) := PE.imp (pe_call (E := E0) G hr hg hm hk hb .nil pass0 ha hdb he hpl) fun σ H Q ⟨γ, S0, S, r, E, hf, q⟩ => by
  obtain ⟨t, h1, h2⟩ := bind1 hf
  refine ⟨γ, S0, S, t, E, h1, fun vs H1 s1 r1 => ?_⟩
  obtain ⟨j, e1, e2⟩ := h0 t
  obtain ⟨E2, hl⟩ := env_start r1 (E.same s1).dT e2
  rw [List.append_nil]
  refine ⟨hl.trans hn, t, _, r, by rw [e1]; exact E2, h2, fun v H' rv => ?_⟩
  obtain ⟨s2, r2⟩ := ret_f rv
  exact q v H' (s1.trans s2) (r2.back s1)
theorem pv_call0 {F : Unit → Option ρ} {sl0 : Unit → Sl} (G : FnOk X.prog X.w X.K X.mg X.base CX0 k f fd ps (spF X.K N 0 sl0 .a F)) (hr : Room k X.A) (hg : Gl X x) (hm : X.mg x = some (.ref f)) (hk : PySem.W.keepIn X.K (.ref f) = true) (hb : Binds X.K fd ps [])
    (h0 : ∃ j, sl0 () = List.replicate j none ∧ N.length = j) (hdb : (x == ("__debug__" : Str)) = false := by decide) :
    PV X sl .a (.Call (.Name x p) [] [] pos) (fun s => F ()) := PE.imp (pe_call0 (E := E0) G hr hg hm hk hb .nil pass0 hdb) fun σ H Q ⟨γ, S0, S, r, E, hf, q⟩ => by
  obtain ⟨j, e1, e2⟩ := h0
  obtain ⟨E2, hl⟩ := env_start (K := X.K) (H := H) (ms := []) (ds := []) (vs := []) (T := un S S0) (j := j) (N := N) trivial E.dT (by rw [e2]; simp)
  refine ⟨rfl, (), _, r, by rw [e1]; exact E2, hf, fun v H' rv => ?_⟩
  obtain ⟨s2, r2⟩ := ret_a rv
  exact q v H' s2 r2
end
/-- more turns than any loop takes -/
def FUEL : Nat := 18446744073709551616
theorem hu64 {k : Nat} {A : Around} (hr : Room k A) : A.units + 64 < cLine := hr.units
theorem hu65 {k : Nat} {A : Around} (hr : Room k A) : A.units + 65 < cLine := by have := hr.un; omega
/-- another type for the same data -/
theorem PV.co [Enc α] [Enc β] {f : Γ → Option α} {k : Kd} (h : α → β) (p : ∀ t, enc (h t) = enc t) (he : PV X sl k e f) : PV X sl k e (fun s => (f s).bind fun t => some (h t)) := PE.imp he fun σ H Q ⟨g, S0, S, t, E, hf, q⟩ => by
  obtain ⟨u, h1, h2⟩ := bind1 hf
  cases h2
  exact ⟨g, S0, S, u, E, h1, fun v H' s r => q v H' s (by rw [p]; exact r)⟩
theorem co_some [Enc α] [Enc β] {h : α → β} (p : ∀ t, enc (h t) = enc t) (t : α) : enc (some (h t)) = enc t := p t
theorem co_map [Enc α] [Enc β] {h : α → β} (p : ∀ t, enc (h t) = enc t) (t : List α) : enc (t.map h) = enc t := by
  show PyData.list _ = PyData.list _
  rw [List.map_map]
  congr 1
  exact List.map_congr_left fun x _ => p x
theorem piv_varb {ι : Type} [Enc ι] {tg : Expr} {i : Nat} {x : Str} (p : Γ → List ι) (h : ∀ g, (sl g)[i]? = some (some (.b, enc (p g)))) (hN : X.N[i]? = some x := by rfl)
    (hv : Vis X.env.scope x := by first | exact Or.inl rfl | exact Or.inr (Or.inl rfl) | exact Or.inr (Or.inr rfl)) (hd : (x == ("__debug__" : Str)) = false := by decide) (hcd : (x == ("__classdict__" : Str)) = false := by decide) :
    IV X sl .a tg (.Name x pos) (fun g => some (p g)) := PI.imp (pi_list (pe_var (i := i) hN hv hd hcd)) fun σ H R ⟨g, S0, S, xs, E, hf, q⟩ => by
  cases hf
  obtain ⟨v, h1, h2⟩ := E.at_ i _ _ (h g)
  refine ⟨v, h1, ?_⟩
  rcases h2 with h2 | ⟨ds, a, vs, e1, rfl, h3, h4⟩ | ⟨_, _, _, e1, _⟩
  · obtain ⟨a, vs, rfl, h3, h4⟩ := h2
    exact ⟨a, rfl, ⟨vs, h3.sq⟩, q _ H (Same.refl H) (ok_list (fun S2 H2 m _ => (h3.mv m.un).sq) h4)⟩
  · cases e1
    exact ⟨a, rfl, ⟨vs, .inl h3.1⟩, q _ H (Same.refl H) (ok_list (fun S2 H2 m _ => .inl (rd_mv m h3).1) h4)⟩
  · cases e1
end PL

/-! PL9: more known functions. -/
namespace PL
open PySem PySem.Spec L2
open Enc (enc)
variable {Γ Γ' Γ'' ρ τ α β γ' A B : Type} {X : Cx} {sl : Γ → Sl} {sl' : Γ' → Sl} {e a b c : Expr} {es : List Expr} {k k1 : Kd} {pos : Pos} {kr : Kd}
theorem pv_gcd' {fa fb : Γ → Option Int} {p : Pos} (hg : Gl X "gcd") (hm : X.mg "gcd" = some (.builtin "math.gcd")) (ha : PV X sl .b a fa) (hb : PV X sl .b b fb) (he : starEach [a, b] X.env = (false, eval a X.env) :: starEach [b] X.env := by rfl) (he2 : starEach [b] X.env = (false, eval b X.env) :: starEach [] X.env := by rfl) (hpl : (backTo pos (starEach [b] X.env)).any (·.1) = false := by rfl) :
    PV X sl .a (.Call (.Name "gcd" p) [a, b] [] pos) (fun s => (fa s).bind fun x => (fb s).bind fun y => some ((Nat.gcd x.natAbs y.natAbs : Nat) : Int)) :=
  pv_c2 (fun h1 h2 => pe_callBfun cr_gcd hg hm (pa_cons h1 (pa_cons h2 pa_nil he2) he) (he := he) (hpl := hpl)) (fun T H x y u w t Q hT r1 r2 e q => by
    cases e
    exact ⟨u, w, by rw [rb_i r1, rb_i r2], q _ H (Same.refl H) rfl⟩) ha hb
/-- a, b, c = x, y, z: three local names -/
theorem sv_par3 [Enc ρ] [Enc α] [Enc β] [Enc γ'] {i j l : Nat} {x y z : Str} {px py pz pt : Pos} {kt k2 : Nat} {pt2 : Pos} {fa : Γ → Option α} {fb : Γ → Option β} {fc : Γ → Option γ'} (set : Γ → α → β → γ' → Γ') (h : ∀ g t u v, sl' (set g t u v) = (((sl g).set i (some (.a, enc t))).set j (some (.a, enc u))).set l (some (.a, enc v)))
    (hN : X.N.Nodup) (ha : PV X sl .a a fa) (hb : PV X sl .a b fb) (hc' : PV X sl .a c fc) (hij : i ≠ j := by decide) (hil : i ≠ l := by decide) (hjl : j ≠ l := by decide) (hi : X.N[i]? = some x := by rfl) (hj : X.N[j]? = some y := by rfl) (hl : X.N[l]? = some z := by rfl)
    (hx : X.env.scope.names.lookup x = some .local := by rfl) (hy : X.env.scope.names.lookup y = some .local := by rfl) (hz : X.env.scope.names.lookup z = some .local := by rfl) (hc : X.calm = true := by rfl)
    (h1 : starEach [a, b, c] X.env = (false, eval a X.env) :: starEach [b, c] X.env := by rfl) (h2 : starEach [b, c] X.env = (false, eval b X.env) :: starEach [c] X.env := by rfl) (h3 : starEach [c] X.env = (false, eval c X.env) :: starEach [] X.env := by rfl)
    (hw : swappedStores [.Tuple [.Name x px, .Name y py, .Name z pz] kt pt] (.Tuple [a, b, c] k2 pt2) X.env = pure (some [x, y, z]) := by rfl)
    (hs : swapsWithSole [.Tuple [.Name x px, .Name y py, .Name z pz] kt pt] (.Tuple [a, b, c] k2 pt2) pos.line X.env = pure false := by rfl) :
    SV (ρ := ρ) X sl sl' kr (.Assign [.Tuple [.Name x px, .Name y py, .Name z pz] kt pt] (.Tuple [a, b, c] k2 pt2) pos) (fun g => (fa g).bind fun t => (fb g).bind fun u => (fc g).bind fun v => some (.nx (set g t u v))) :=
  PS.imp (ps_par3 hc hN hi hj hl hij hil hjl hx hy hz (pa_cons ha (pa_cons hb (pa_cons hc' pa_nil h3) h2) h1) hw hs) fun D σ H ⟨γ, S0, S, o, E, hf, p⟩ => by
    obtain ⟨t, u, e1, e2, e3⟩ := bind2 hf
    obtain ⟨v, e4, e5⟩ := bind1 e3
    cases e5
    refine ⟨γ, S0, S, t, E, e1, fun v1 H1 s1 r1 => ⟨γ, S0, S, u, E.same s1, e2, fun v2 H2 s2 r2 => ⟨γ, S0, S, v, (E.same s1).same s2, e4, fun v3 H3 s3 r3 => ⟨v1, v2, v3, rfl, ?_⟩⟩⟩⟩
    have s23 := s2.trans s3
    refine p _ _ S ?_ (.same (s1.trans s23))
    rw [h]
    exact ((((E.same s1).same s23).seta (Rp.mv (.same s23) _ _ r1)).seta (Rp.mv (.same s3) _ _ r2)).seta r3
/-! ### truth -/
theorem pb_truI {f : Γ → Option Int} (h : PV X sl .b e f) (he : ∀ whole, isTrue e X.env whole = (do let v ← whole; standAt e.pos; holding [v] (truthy v)) := by intro _; rfl) : PB X sl e (fun s => (f s).bind fun x => some (x != 0)) :=
  PT.imp (pt_truth h he) fun σ H Q ⟨γ, S0, S, t, E, hf, q⟩ => by
    obtain ⟨x, e1, e2⟩ := bind1 hf
    cases e2
    exact ⟨γ, S0, S, x, E, e1, fun v H' s r => ⟨_, by rw [rb_i r]; exact rfl, q H' s⟩⟩
theorem pb_truL [Enc τ] {f : Γ → Option (List τ)} (h : PV X sl .b e f) (he : ∀ whole, isTrue e X.env whole = (do let v ← whole; standAt e.pos; holding [v] (truthy v)) := by intro _; rfl) : PB X sl e (fun s => (f s).bind fun x => some (!x.isEmpty)) :=
  PT.imp (pt_truth h he) fun σ H Q ⟨γ, S0, S, t, E, hf, q⟩ => by
    obtain ⟨x, e1, e2⟩ := bind1 hf
    cases e2
    refine ⟨γ, S0, S, x, E, e1, fun v H' s r => ?_⟩
    obtain ⟨p, xs, rfl, h1, h2⟩ := rb_l r
    refine ⟨_, .inl ⟨xs, h1, ?_⟩, q H' s⟩
    have hl := map_len h2
    cases x <;> cases xs <;> simp at hl ⊢
/-! ### texts -/
def tJoin (x : Tx) (ys : List Tx) : Option Tx := if (ys.map fun t => t.cs.length).sum + ys.length * x.cs.length ≤ 16777216 then some ⟨x.cs.intercalate (ys.map fun t => t.cs)⟩ else none

/-! ### comprehensions of two clauses -/
def noO (l : Sl) : Bool := l.all fun x => match x with
  | some (.o, _) => false
  | _ => true
theorem noO_spec {l : Sl} (h : noO l = true) (i : Nat) (d : PyData) : l[i]? ≠ some (some (.o, d)) := fun e => by
  have := List.all_eq_true.mp h _ (List.mem_of_getElem? e)
  cases this
section
variable {Γb Γc ι κ : Type} {slb : Γb → Sl} {slc : Γc → Sl} [Enc ι] [Enc κ] [Enc τ] {elt tg iter tg1 iter1 : Expr} {ifs ifs1 : List Expr} {scope : Scope} {own : List (Str × Nat)} {vs1 : List Nat} {fi : Γ → Option (List ι)} {set : Γ → ι → Γb} {js js1 : List Nat} {ft : Γb → Option Bool} {fi1 : Γb → Option (List κ)} {set1 : Γb → κ → Γc} {ft1 : Γc → Option Bool} {fe : Γc → Option τ}
theorem pv_lc2 (hN : X.N.Nodup)
    (hi : IV X sl .b tg iter fi) (ok : BlkOk X.N X.env.scope scope own) (hj : ∀ i ∈ js, i ∈ own.map (·.2)) (hj1 : ∀ i ∈ js1, i ∈ vs1) (hv : ∀ i ∈ vs1, i ∈ own.map (·.2)) (hno : ∀ g : Γb, noO (slb g) = true)
    (hg : ∀ (s : Shared) (H : Hp) (C : Addr) (cl : List (Str × Addr)) (fp : List Addr), GV (X.blk s H scope (compEnvC scope cl C X.env) fp) (fun g => wipeB (sl g) (own.map (·.2))) slb tg set js)
    (ht : ∀ (s : Shared) (H : Hp) (C : Addr) (cl : List (Str × Addr)) (fp : List Addr), PBs (X.blk s H scope (compEnvC scope cl C X.env) fp) slb ifs ft)
    (hi1 : ∀ (s : Shared) (H : Hp) (C : Addr) (cl : List (Str × Addr)) (fp : List Addr), IV (X.blk s H scope (compEnvC scope cl C X.env) fp) slb .a tg1 iter1 fi1)
    (hg1 : ∀ (s : Shared) (H : Hp) (C : Addr) (cl : List (Str × Addr)) (fp : List Addr), GV (X.blk s H scope (compEnvC scope cl C X.env) fp) (fun g => wipeB (slb g) vs1) slc tg1 set1 js1)
    (ht1 : ∀ (s : Shared) (H : Hp) (C : Addr) (cl : List (Str × Addr)) (fp : List Addr), PBs (X.blk s H scope (compEnvC scope cl C X.env) fp) slc ifs1 ft1)
    (he : ∀ (s : Shared) (H : Hp) (C : Addr) (cl : List (Str × Addr)) (fp : List Addr), PV (X.blk s H scope (compEnvC scope cl C X.env) fp) slc .a elt fe) (hc : X.calm = true := by rfl) (hs : ∀ x, foldedSetIterable iter X.env x = pure x := by intro _; rfl) (hs1 : ∀ env x, foldedSetIterable iter1 env x = pure x := by intro _ _; rfl) :
    PV X sl .f (.ListComp elt [⟨tg, iter, ifs, 0⟩, ⟨tg1, iter1, ifs1, 0⟩] scope pos) (fun g => ((fi g).bind fun xs => compO2 ft fi1 ft1 fe (set g) set1 xs).bind fun r => lNew r) :=
  PE.imp (pe_lc2 (g := tG X.K (fun g => wipeB (sl g) (own.map fun q : Str × Nat => q.2)) slb set js) (tt := tB X.K slb ft) (wi1 := tI X.K slb .a fi1) (g1 := tG X.K (fun g => wipeB (slb g) vs1) slc set1 js1) (tt1 := tB X.K slc ft1) (te := tD X.K slc .a fe) hc hN hi ok hv hg ht hi1 hg1 ht1 he hs hs1) fun σ H Q h => lc2_read hj hj1 (fun g => noO_spec (hno g)) h
variable [Enc ρ] {i : Nat} {y : Str} {py spos : Pos}
theorem sv_ownLc2 (st : Γ → List τ → Γ') (h : ∀ g t, sl' (st g t) = (sl g).set i (some (.o, enc t))) (hN : X.N.Nodup)
    (hi : IV X sl .b tg iter fi) (ok : BlkOk X.N X.env.scope scope own) (hj : ∀ i ∈ js, i ∈ own.map (·.2)) (hj1 : ∀ i ∈ js1, i ∈ vs1) (hv : ∀ i ∈ vs1, i ∈ own.map (·.2)) (hno : ∀ g : Γb, noO (slb g) = true)
    (hg : ∀ (s : Shared) (H : Hp) (C : Addr) (cl : List (Str × Addr)) (fp : List Addr), GV (X.blk s H scope (compEnvC scope cl C X.env) fp) (fun g => wipeB (sl g) (own.map (·.2))) slb tg set js)
    (ht : ∀ (s : Shared) (H : Hp) (C : Addr) (cl : List (Str × Addr)) (fp : List Addr), PBs (X.blk s H scope (compEnvC scope cl C X.env) fp) slb ifs ft)
    (hi1 : ∀ (s : Shared) (H : Hp) (C : Addr) (cl : List (Str × Addr)) (fp : List Addr), IV (X.blk s H scope (compEnvC scope cl C X.env) fp) slb .a tg1 iter1 fi1)
    (hg1 : ∀ (s : Shared) (H : Hp) (C : Addr) (cl : List (Str × Addr)) (fp : List Addr), GV (X.blk s H scope (compEnvC scope cl C X.env) fp) (fun g => wipeB (slb g) vs1) slc tg1 set1 js1)
    (ht1 : ∀ (s : Shared) (H : Hp) (C : Addr) (cl : List (Str × Addr)) (fp : List Addr), PBs (X.blk s H scope (compEnvC scope cl C X.env) fp) slc ifs1 ft1)
    (he : ∀ (s : Shared) (H : Hp) (C : Addr) (cl : List (Str × Addr)) (fp : List Addr), PV (X.blk s H scope (compEnvC scope cl C X.env) fp) slc .a elt fe)
    (hy : X.N[i]? = some y := by rfl) (hyl : X.env.scope.names.lookup y = some .local := by rfl)
    (hsw : swapsWith (.ListComp elt [⟨tg, iter, ifs, 0⟩, ⟨tg1, iter1, ifs1, 0⟩] scope pos) (some (.Name y py)) spos.line X.env = pure true := by exact sw_true rfl rfl rfl (by decide +kernel)) (hc : X.calm = true := by rfl) (hs : ∀ x, foldedSetIterable iter X.env x = pure x := by intro _; rfl) (hs1 : ∀ env x, foldedSetIterable iter1 env x = pure x := by intro _ _; rfl) :
    SV (ρ := ρ) X sl sl' kr (.Assign [.Name y py] (.ListComp elt [⟨tg, iter, ifs, 0⟩, ⟨tg1, iter1, ifs1, 0⟩] scope pos) spos) (fun g => (((fi g).bind fun xs => compO2 ft fi1 ft1 fe (set g) set1 xs).bind fun r => lNew r).bind fun t => some (.nx (st g t))) :=
  PS.imp (ps_setLc2 (g := tG X.K (fun g => wipeB (sl g) (own.map fun q : Str × Nat => q.2)) slb set js) (tt := tB X.K slb ft) (wi1 := tI X.K slb .a fi1) (g1 := tG X.K (fun g => wipeB (slb g) vs1) slc set1 js1) (tt1 := tB X.K slc ft1) (te := tD X.K slc .a fe) hc hN hy hyl hsw hi ok hv hg ht hi1 hg1 ht1 he hs hs1) fun D σ H ⟨γ, S0, S, o, E, hf, p⟩ => by
    obtain ⟨t, e1, e2⟩ := bind1 hf
    cases e2
    refine lc2_read hj hj1 (fun g => noO_spec (hno g)) ⟨γ, S0, S, t, E, e1, fun v H' s r => ?_⟩
    obtain ⟨S', m, E'⟩ := E.seto (i := i) s r
    refine p _ _ S' ?_ m
    rw [h]
    exact E'
theorem sv_setLc2 (st : Γ → List τ → Γ') (h : ∀ g t, sl' (st g t) = (sl g).set i (some (.a, enc t))) (hN : X.N.Nodup)
    (hi : IV X sl .b tg iter fi) (ok : BlkOk X.N X.env.scope scope own) (hj : ∀ i ∈ js, i ∈ own.map (·.2)) (hj1 : ∀ i ∈ js1, i ∈ vs1) (hv : ∀ i ∈ vs1, i ∈ own.map (·.2)) (hno : ∀ g : Γb, noO (slb g) = true)
    (hg : ∀ (s : Shared) (H : Hp) (C : Addr) (cl : List (Str × Addr)) (fp : List Addr), GV (X.blk s H scope (compEnvC scope cl C X.env) fp) (fun g => wipeB (sl g) (own.map (·.2))) slb tg set js)
    (ht : ∀ (s : Shared) (H : Hp) (C : Addr) (cl : List (Str × Addr)) (fp : List Addr), PBs (X.blk s H scope (compEnvC scope cl C X.env) fp) slb ifs ft)
    (hi1 : ∀ (s : Shared) (H : Hp) (C : Addr) (cl : List (Str × Addr)) (fp : List Addr), IV (X.blk s H scope (compEnvC scope cl C X.env) fp) slb .a tg1 iter1 fi1)
    (hg1 : ∀ (s : Shared) (H : Hp) (C : Addr) (cl : List (Str × Addr)) (fp : List Addr), GV (X.blk s H scope (compEnvC scope cl C X.env) fp) (fun g => wipeB (slb g) vs1) slc tg1 set1 js1)
    (ht1 : ∀ (s : Shared) (H : Hp) (C : Addr) (cl : List (Str × Addr)) (fp : List Addr), PBs (X.blk s H scope (compEnvC scope cl C X.env) fp) slc ifs1 ft1)
    (he : ∀ (s : Shared) (H : Hp) (C : Addr) (cl : List (Str × Addr)) (fp : List Addr), PV (X.blk s H scope (compEnvC scope cl C X.env) fp) slc .a elt fe)
    (hy : X.N[i]? = some y := by rfl) (hyl : X.env.scope.names.lookup y = some .local := by rfl)
    (hsw : swapsWith (.ListComp elt [⟨tg, iter, ifs, 0⟩, ⟨tg1, iter1, ifs1, 0⟩] scope pos) (some (.Name y py)) spos.line X.env = pure true := by exact sw_true rfl rfl rfl (by decide +kernel)) (hc : X.calm = true := by rfl) (hs : ∀ x, foldedSetIterable iter X.env x = pure x := by intro _; rfl) (hs1 : ∀ env x, foldedSetIterable iter1 env x = pure x := by intro _ _; rfl) :
    SV (ρ := ρ) X sl sl' kr (.Assign [.Name y py] (.ListComp elt [⟨tg, iter, ifs, 0⟩, ⟨tg1, iter1, ifs1, 0⟩] scope pos) spos) (fun g => (((fi g).bind fun xs => compO2 ft fi1 ft1 fe (set g) set1 xs).bind fun r => lNew r).bind fun t => some (.nx (st g t))) :=
  PS.imp (ps_setLc2 (g := tG X.K (fun g => wipeB (sl g) (own.map fun q : Str × Nat => q.2)) slb set js) (tt := tB X.K slb ft) (wi1 := tI X.K slb .a fi1) (g1 := tG X.K (fun g => wipeB (slb g) vs1) slc set1 js1) (tt1 := tB X.K slc ft1) (te := tD X.K slc .a fe) hc hN hy hyl hsw hi ok hv hg ht hi1 hg1 ht1 he hs hs1) fun D σ H ⟨γ, S0, S, o, E, hf, p⟩ => by
    obtain ⟨t, e1, e2⟩ := bind1 hf
    cases e2
    refine lc2_read hj hj1 (fun g => noO_spec (hno g)) ⟨γ, S0, S, t, E, e1, fun v H' s r => ?_⟩
    refine p _ _ S ?_ (.same s)
    rw [h]
    exact (E.same s).seta (Fr.rp r E.dT)
end

/-- the law's promise at a script -/
theorem sp_law {K : PySem.W.Frag} {H : Hp} {a : Addr} {ns : List Int} {N : List Str} {sl0 : List Int × Unit → Sl} {F : List Int × Unit → Option Bool} {E : XK} {j : Nat} (md : Mo) (hmd : md ≠ .o) (hS : SqL K H a (ns.map V.int)) (hF : F (ns, ()) = some true)
    (h0 : sl0 (ns, ()) = slOf [md] [enc ns] ++ List.replicate j none) (hN : N.length = 1 + j) : spF K N 1 sl0 .a F [.ref a] H (fun v _ => v = .bl true) E := by
  have r : Rp K H no (enc ns) (.ref a) := ⟨a, ns.map V.int, rfl, hS.imp (fun h => ⟨h, fun z => z⟩) id, rpa_ints ns⟩
  have ra : ArgsR K H no [md] [enc ns] [.ref a] := ⟨by
    cases md with
    | a => exact r
    | b => exact .inl r
    | o => exact absurd rfl hmd, trivial⟩
  obtain ⟨En, _⟩ := env_start (N := N) (j := j) ra (fun a z => z.elim) hN
  refine ⟨rfl, (ns, ()), no, true, by rw [h0]; exact En, hF, fun v H' rv => rv.2⟩
end PL

/-! PL10: repr, and the law's promise at the caller alone (its guards are known there). -/
namespace PL
open PySem PySem.Spec L2 PyProof.Rows
open Enc (enc)

section
variable {X : Cx} {pins : List (Addr × Obj)} {σ : L2.St} {H : Hp} {s : Shared} {T : Ad}
mutual
theorem reads_rp (I : Inv X pins σ H s) : ∀ (d : PyData) (v : V) (u : Value), Rp X.K H T d v → RelV v u → d.hasDict = false → ∃ as, Reads s.heap u d as
  | .none, v, u, h, r, _ => by
    have h : v = .non := h
    subst h
    have r : u = Value.none := r
    subst r
    exact ⟨_, .none⟩
  | .bool b, v, u, h, r, _ => by
    have h : v = .bl b := h
    subst h
    have r : u = Value.bool b := r
    subst r
    exact ⟨_, .bool b⟩
  | .int i, v, u, h, r, _ => by
    have h : v = .int i := h
    subst h
    obtain ⟨t, rfl⟩ := r
    exact ⟨_, .int i t⟩
  | .str x, v, u, h, r, _ => by
    have h : v = .str x := h
    subst h
    obtain ⟨t, rfl⟩ := r
    exact ⟨_, .str x t⟩
  | .list ds, v, u, h, r, nd => by
    obtain ⟨a, xs, e, h1, h2⟩ := h
    subst e
    have r : u = Value.ref a := r
    subst r
    obtain ⟨its, rv, ⟨o, n, q1, q2, _, q3⟩, _⟩ := I.list h1.sq
    obtain ⟨as, ra⟩ := reads_rpA I ds xs its h2 rv (by simpa [PyData.hasDict] using nd)
    exact ⟨_, .list q1 q2 q3 (by simpa using ra)⟩
  | .tuple ds, v, u, h, r, nd => by
    obtain ⟨a, xs, e, h1, h2⟩ := h
    subst e
    have r : u = Value.ref a := r
    subst r
    obtain ⟨its, rv, ⟨o, q1, q2, n, q3⟩, _⟩ := I.tuple h1.sq
    obtain ⟨as, ra⟩ := reads_rpA I ds xs its h2 rv (by simpa [PyData.hasDict] using nd)
    exact ⟨_, .tuple q1 q2 q3 (by simpa using ra)⟩
  | .dict kvs, v, u, h, r, nd => by simp [PyData.hasDict] at nd
theorem reads_rpA (I : Inv X pins σ H s) : ∀ (ds : List PyData) (xs : List V) (us : List Value), RpA X.K H T ds xs → Vals xs us → PyData.hasDictAll ds = false → ∃ as, ReadsAll s.heap us ds as
  | [], xs, us, h, r, _ => by
    have h : xs = [] := h
    subst h
    cases r
    exact ⟨_, .nil⟩
  | d :: ds, xs, us, h, r, nd => by
    obtain ⟨v, vs, e, h1, h2⟩ := h
    subst e
    rw [PyData.hasDictAll, Bool.or_eq_false_iff] at nd
    cases r with
    | cons r1 r2 =>
      obtain ⟨as, q1⟩ := reads_rp I d v _ h1 r1 nd.1
      obtain ⟨bs, q2⟩ := reads_rpA I ds vs _ h2 r2 nd.2
      exact ⟨_, .cons q1 q2⟩
end
theorem reads_rb (I : Inv X pins σ H s) {d : PyData} {v : V} {u : Value} (h : Rb X.K H T d v) (r : RelV v u) (nd : d.hasDict = false) : ∃ as, Reads s.heap u d as := by
  rcases h with h | ⟨ds, a, xs, rfl, rfl, h1, h2⟩ | ⟨kvs, a, es, rfl, _⟩
  · exact reads_rp I d v u h r nd
  · have r : u = Value.ref a := r
    subst r
    obtain ⟨its, rv, ⟨o, n, q1, q2, _, q3⟩, _⟩ := I.list (.inl h1)
    obtain ⟨as, ra⟩ := reads_rpA I ds xs its h2 rv (by simpa [PyData.hasDict] using nd)
    exact ⟨_, .list q1 q2 q3 (by simpa using ra)⟩
  · simp [PyData.hasDict] at nd
end
section
variable {X : Cx}
/-- repr of anything plain -/
theorem call_repr_any (hgd : X.A.guards = some []) (hu : X.A.units + 64 < cLine) :
    CallR X (.builtin "repr") (fun xs H Q => ∃ d v T, xs = [v] ∧ Rb X.K H T d v ∧ d.showable = true ∧ d.hasDict = false ∧ d.shown.length ≤ sizeLine ∧ d.depth ≤ 32 ∧ Q (.str d.shown) H) := by
  intro pins s σ H xs us Q I r h
  obtain ⟨d, v, T, rfl, hr, hs, nd, hz, hd, q⟩ := h
  obtain ⟨u, rfl, rv⟩ := vals1 r
  obtain ⟨as, R⟩ := reads_rb I hr rv nd
  cases R with
  | none => exact PySem.P.repr_of_none ⟨.str _, H, I.tok _, ⟨_, rfl⟩, q⟩
  | bool b => exact PySem.P.repr_of_bool ⟨.str _, H, I.tok _, ⟨_, rfl⟩, q⟩
  | int i t => exact PySem.P.repr_of_int (by simpa [PyData.showable] using hs) ⟨.str _, H, I.tok _, ⟨_, rfl⟩, q⟩
  | str x t => exact PySem.P.repr_of_str ⟨.str _, H, I.tok _, ⟨_, rfl⟩, q⟩ hz
  | list h1 h2 h3 h4 => exact repr_of_reads' (Reads.list h1 h2 h3 h4) hs (fun z => by rw [nd] at z; cases z) hgd (by omega) (fun _ _ e => e) (fun h' u tk k => ⟨.str _, H, I.kept k, ⟨_, rfl⟩, q⟩) hz
  | tuple h1 h2 h3 h4 => exact repr_of_reads' (Reads.tuple h1 h2 h3 h4) hs (fun z => by rw [nd] at z; cases z) hgd (by omega) (fun _ _ e => e) (fun h' u tk k => ⟨.str _, H, I.kept k, ⟨_, rfl⟩, q⟩) hz
  | dict _ _ _ _ _ => simp [PyData.hasDict] at nd
end
def rShow [Enc τ] (x : τ) : Option Tx := if (enc x).showable = true ∧ (enc x).hasDict = false ∧ (enc x).shown.length ≤ sizeLine ∧ (enc x).depth ≤ 32 then some ⟨(enc x).shown.cps.toList⟩ else none
section
variable {Γ τ : Type} {X : Cx} {sl : Γ → Sl} {a : Expr} {p pos : Pos}
theorem pv_repr [Enc τ] {fa : Γ → Option τ} (hgd : X.A.guards = some []) (hu : X.A.units + 64 < cLine) (hg : Gl X "repr") (hm : X.mg "repr" = none) (ha : PV X sl .b a fa) (he : starEach [a] X.env = (false, eval a X.env) :: starEach [] X.env := by rfl) :
    PV X sl .a (.Call (.Name "repr" p) [a] [] pos) (fun s => (fa s).bind fun x => rShow x) :=
  pv_c1 (fun h => pe_callB (call_repr_any hgd hu) hg hm (by rfl) (pa_cons h pa_nil he) (he := he)) (fun T H x u t Q hT r e q => by
    obtain ⟨⟨h1, h2, h3, h4⟩, rfl⟩ := if_some e
    refine ⟨_, x, T, rfl, r, h1, h2, h3, h4, q _ H (Same.refl H) ?_⟩
    show V.str _ = V.str _
    simp) ha
end

/-! ### the promise at the caller alone -/
def FnAt (P : Program) (w : World) (K : PySem.W.Frag) (mg : Str → Option Value) (base : Heap) (f : Addr) (fd : FuncData) (ps : List Str) (sp : Sp) : Prop :=
  ∀ (s : Shared) (H : Hp) (args : Args) (us : List Value) (vs : List V) (Q : VK) (E : XK), Env0 P w K mg base callerA [] s H → BindsTo s fd args (ps.zip us) → Vals vs us → sp vs H Q E →
    codeAny (model P w) callerA (.call (.ref f) args) (CR CX0 [] P w H s Q E) s
section
variable {P : Program} {w : World} {K : PySem.W.Frag} {mg : Str → Option Value} {base : Heap}
theorem fnAt_of {x qual : Str} {st : Stmt} {f : Addr} {fd : FuncData} {N ps : List Str} {k : Nat} {sp : Sp} (F : Fun K x qual st f fd) (S : FnScope N ps (defScope st)) (hr : Room (k + 1) callerA) (len : ∀ vs H Q E, sp vs H Q E → vs.length = ps.length)
    (body : ∀ (cdv : Value) (s : Shared) (H : Hp) (vs : List V) (Q : VK) (E : XK), Room k (callerA.deeper (envOfC qual (defScope st) s.heap.objs.size f cdv)) → sp vs H Q E →
      ∃ t, PSs (cxOf CX0 P w K mg base N qual (defScope st) f cdv callerA [] s H E).nox (defBody st) t ∧ t { nx := fun _ H' => Q .non H', rt := Q } (L2.start N vs) H) : FnAt P w K mg base f fd ps sp := by
  obtain ⟨oc, od, kV, doc, pm, an, cdv, ct, osl, rfl, lk, hcd⟩ := F.ex
  intro s H args us vs Q E e0 hb r hsp
  have n1 := len _ _ _ _ hsp
  have kin : K.In s.heap := e0.mod.kin.keeps fun b o z => (e0.bs b o z).1
  have nolim : s.heap.NoLimit := e0.mod.nolimit.keeps fun b o z => (e0.bs b o z).1
  refine codeAny_call_function hr.depth (kin _ _ lk) rfl S.co S.gen rfl
    (PySem.W.codeRec_of kin hcd) (hb _ _ _ _ ?_)
  refine wpAny_newFunctionEnv_cells S.kind ?_ fun env he s1 x => ?_
  · rintro ⟨n, v⟩ hy
    rcases S.par n (List.of_mem_zip hy).1 with z | z
    · exact .inl z
    · exact .inr ⟨z, PySem.W.cellsFrom_some _ _ _ (.inl z)⟩
  · subst he
    refine ⟨nolim.keeps x.toInCall.keep, codeAny_func ?_⟩
    obtain ⟨t, ht0, hq⟩ := body cdv s H vs Q E (hr.deeper _) hsp
    have ht := ht0.nox
    refine wpAny_mono (ht.run [] s1 (L2.start N vs) H _ (inv_start S hr.hd e0 n1 r x) hq) (fun fl s' hs => ?_) fun e s' hs => hs
    rcases fl with _ | _ | _ | u
    · obtain ⟨σ', H', J, q⟩ := hs
      exact ⟨.non, H', J.os, J.bare, J.base, J.hok, rfl, q⟩
    · obtain ⟨_, _, _, q⟩ := hs
      exact False.elim q
    · obtain ⟨_, _, _, q⟩ := hs
      exact False.elim q
    · obtain ⟨v, σ', H', J, rv, q⟩ := hs
      exact ⟨v, H', J.os, J.bare, J.base, J.hok, rv, q⟩
end
end PL

/-! PL11: the end of a law from the promise at the caller alone; the law's def. -/
namespace PL
open PySem PySem.Spec L2 PyProof.Rows
open Enc (enc)
variable {Γ Γ' ρ τ A : Type}

theorem at_call {P : Program} {w : World} {K : PySem.W.Frag} {mg mb : Str → Option Value} {fa a : Addr} {fd : FuncData} {x : Str} {sp : Sp} {s : Shared} {vs : List Value} {ns : List Int}
    (kin : K.In s.heap) (g1 : s.heap.Ns mainGlobals mg) (g2 : s.heap.Ns builtinsNs mb) (g3 : ∀ x : Str, x ≠ "__name__" → mb x = bootBuiltins x) (g4 : s.heap.NoLimit) (g5 : s.gens = #[])
    (ha : s.heap.get? a = some { cls := .type "list", data := .seq vs.toArray }) (hi : PyProof.Rows.IntsAre vs ns) (hl : ns.length ≤ sizeLine)
    (F : ∀ b : Heap, K.In b → b.Ns mainGlobals mg → FnAt P w K mg b fa fd [x] sp) (hb : ∀ (s : Shared) (u : Value), BindsTo s fd ⟨[u], []⟩ [(x, u)])
    (hsp : ∀ H : Hp, SqL K H a (ns.map V.int) → sp [.ref a] H (fun v _ => v = .bl true) fun _ _ _ => False) :
    codeAny (model P w) callerA (.call (.ref fa) ⟨[.ref a], []⟩) (fun r s' => r = .ok (.ret (.bool true)) ∧ OldK s.heap s'.heap ∧ s'.os = s.os ∧ AllBare s'.gens) s := by
  have rv := vals_ints hi
  -- the script is tracked, frozen, unless the module itself holds it
  obtain ⟨H, h1, h2, h3, h4⟩ : ∃ H : Hp, SqL K H a (ns.map V.int) ∧ HOk P w H s.heap ∧ (∀ b, H b ≠ none → b = a ∧ K.lookup a = none) ∧ ∀ b, H b = none ∨ ∃ o u, H b = some (.frz o u) := by
    cases e : K.lookup a with
    | some o =>
      refine ⟨fun _ => none, .inr ?_, (fun b u z => by have z : (none : Option HO) = some u := z; cases z), (fun b z => absurd rfl z), (fun _ => .inl rfl)⟩
      have q := kin a o e
      rw [ha] at q
      cases q
      refine ⟨_, vs.toArray, _, e, rfl, rfl, rfl, ?_, ?_⟩
      · rw [List.size_toArray, hi.length]; exact hl
      · simpa using rv
    | none =>
      refine ⟨fun b => if b = a then some (.frz { cls := .type "list", data := .seq vs.toArray } (.lst (ns.map V.int))) else none, .inl (.inr ⟨{ cls := .type "list", data := .seq vs.toArray }, if_pos rfl⟩), fun b u z => ?_, fun b z => ?_, fun b => ?_⟩
      · by_cases hba : b = a
        · subst hba
          have z2 := (if_pos rfl).symm.trans z
          cases z2
          refine ⟨ha, ?_, vs, _, rv, ha⟩
          rw [List.length_map]; exact hl
        · have z2 := (if_neg hba).symm.trans z
          cases z2
      · by_cases hba : b = a
        · exact ⟨hba, rfl⟩
        · exact absurd (if_neg hba) z
      · by_cases hba : b = a
        · exact .inr ⟨_, _, if_pos hba⟩
        · exact .inl (if_neg hba)
  have low : ∀ {b : Addr} {o : Obj}, s.heap.get? b = some o → H b = none → (hidT s.heap H).get? b = some o := fun z n => hidT_get z n
  have nsl : ∀ {b : Addr} {m : Str → Option Value}, s.heap.Ns b m → (hidT s.heap H).Ns b m := by
    rintro b m ⟨o, es, ep, z, d, r⟩
    refine ⟨o, es, ep, low z ?_, d, r⟩
    cases q : H b with
    | none => rfl
    | some u =>
      obtain ⟨rfl, _⟩ := h3 b (by rw [q]; simp)
      rw [ha] at z
      cases z
      cases d
  have kb : K.In (hidT s.heap H) := fun b o z => low (kin b o z) (by
    cases q : H b with
    | none => rfl
    | some u =>
      obtain ⟨rfl, n⟩ := h3 b (by rw [q]; simp)
      rw [n] at z
      cases z)
  have md : Mod K mg (hidT s.heap H) := by
    obtain ⟨mc, y1, y2⟩ := g4
    exact ⟨kb, nsl g1, ⟨mb, nsl g2, g3⟩, ⟨mc, nsl y1, y2⟩⟩
  have e0 : Env0 P w K mg (hidT s.heap H) callerA [] s H :=
    ⟨rfl, md, fun b o z => of_hidT z, Nat.le_of_eq (hidT_size _ _), trivial, (fun b z => by cases z), h2, .of_eq g5⟩
  have go := F _ kb (nsl g1) s H ⟨[.ref a], []⟩ [.ref a] [.ref a] _ _ e0 (hb s (.ref a)) (.cons rfl .nil) (hsp H h1)
  refine codeAny_mono go fun r s' h => ?_
  rcases r with e | fl
  · exact False.elim h
  · rcases fl with _ | _ | _ | u
    · exact False.elim h
    · exact False.elim h
    · exact False.elim h
    · obtain ⟨v, H', os, bare, un, ok', r', q⟩ := h
      have q2 : v = .bl true := q
      subst q2
      have r2 : u = Value.bool true := r'
      subst r2
      refine ⟨rfl, OldK.of_keep fun b o z => ?_, os, bare⟩
      rcases h4 b with q | ⟨ob, u2, q⟩
      · exact un.keep b o z q (by intro y; cases y) (by intro y; cases y)
      · have q2 := un.frzs b ob _ q
        obtain ⟨i1, _⟩ := h2 b _ q
        obtain ⟨i2, _⟩ := ok' b _ q2
        rw [z] at i1
        cases i1
        exact i2

theorem walk_at {l : PySem.W.OpenLaw} {n : Nat} {q : Program} {loose : List Str} {XP : (Str → Option Value) → Heap → Prop} {YP : World → Heap → Prop} {d : DefRec} {K : Params → PySem.W.Frag} {sp : World → Sp} {x : Str}
    (h1 : l.most = some n) (h2 : n ≤ sizeLine) (h3 : d.params.defaults = []) (h4 : ∀ (w : World) (h : Heap), YP w h → (K w.params).In h)
    (F : ∀ (w : World) (mg : Str → Option Value) (fa : Addr) (h : Heap), (K w.params).In h → h.Ns mainGlobals mg → mg d.name = some (.ref fa) →
      ∃ fd : FuncData, (∀ (s : Shared) (u : Value), BindsTo s fd ⟨[u], []⟩ [(x, u)]) ∧ ∀ b : Heap, (K w.params).In b → b.Ns mainGlobals mg → FnAt l.prog w (K w.params) mg b fa fd [x] (sp w))
    (hsp : ∀ (w : World) (H : Hp) (a : Addr) (ns : List Int), ns.length ≤ n → SqL (K w.params) H a (ns.map V.int) → sp w [.ref a] H (fun v _ => v = .bl true) fun _ _ _ => False) :
    PySem.W.WalkO q loose XP YP l.row.toRowW d [] (fun f vs => PySem.call f vs) := by
  refine Att.attach_call h1 h3 ?_
  intro w s₀ s₁ mg mb fa o pm cd doc a vs ns G Y ho hd hcd hmg hobj hints hlen hg
  have kin := h4 w _ Y
  obtain ⟨fd, hb, hF⟩ := F w mg fa _ kin G.T.g hmg
  exact at_call kin G.T.g G.T.b G.T.builtins G.T.nolimit hg hobj hints (Nat.le_trans hlen h2) hF hb fun H hS => hsp w H a ns hlen hS
section
variable {P : Program} {w : World} {K : PySem.W.Frag} {mg : Str → Option Value} {base : Heap}
theorem fnAt_v [Enc ρ] {x qual : Str} {st : Stmt} {f : Addr} {fd : FuncData} {N ps : List Str} {k n : Nat} {sl0 : A → Sl} {slE : Γ → Sl} {fb : A → Option (Out Γ ρ)} {F : A → Option ρ} {kr : Kd} (dn : Option ρ) (Fn : Fun K x qual st f fd) (S : FnScope N ps (defScope st)) (hr : Room (k + 1) callerA) (hn : ps.length = n := by rfl)
    (hdn : ∀ r, dn = some r → enc r = .none) (hk : kr = .a ∨ kr = .f ∧ dn = none)
    (hF : ∀ g, F g = outF dn (fb g))
    (hb : ∀ (cdv : Value) (s : Shared) (H : Hp) (E : XK), Room k (callerA.deeper (envOfC qual (defScope st) s.heap.objs.size f cdv)) →
      BV (cxOf CX0 P w K mg base N qual (defScope st) f cdv callerA [] s H E).nox sl0 slE kr (defBody st) fb) :
    FnAt P w K mg base f fd ps (spF K N n sl0 kr F) := by
  refine fnAt_of Fn S hr (fun vs H Q E h => h.1.trans hn.symm) fun cdv s H vs Q E hr h => ?_
  obtain ⟨hl, g, S0, r, En, hFr, q⟩ := h
  refine ⟨_, hb cdv s H E hr, ?_⟩
  rw [hF] at hFr
  obtain ⟨o, h1, h2⟩ := bind1 hFr
  refine ⟨g, S0, no, o, En, h1, ?_⟩
  cases o with
  | rt r' =>
    cases h2
    exact q
  | nx g' =>
    have h2 : dn = some r := h2
    rcases hk with rfl | ⟨_, e⟩
    · exact fun σ' H' S' _ m => q .non H' ⟨m.no, by rw [hdn r h2]; rfl⟩
    · rw [e] at h2; cases h2
end
example {P : Program} {w : World} {K : PySem.W.Frag} {mg : Str → Option Value} {base : Heap} {N : List Str} {qual : Str} {sc : Scope} {f : Addr} {cdv : Value} {s : Shared} {H : Hp} {E : XK} : (cxOf CX0 P w K mg base N qual sc f cdv callerA [] s H E).nox.A.guards = some [] := rfl
end PL

/-! PL12: dicts that a def owns. -/
namespace PL
open PySem PySem.Spec L2
open Enc (enc)
variable {Γ Γ' ρ τ κ : Type} {X : Cx} {sl : Γ → Sl} {sl' : Γ' → Sl} {e : Expr} {pos : Pos} {kr : Kd}
/-- keys -/
class KeyT (κ : Type) [Enc κ] [DecidableEq κ] where
  key : κ → Key
  kd : ∀ k : κ, keyD (enc k) = some (key k)
  inj : ∀ k l : κ, key k = key l → k = l
  rp : ∀ (K : PySem.W.Frag) (H : Hp) (T : Ad) (k : κ) (v : V), Rb K H T (enc k) v → v = kV (key k)
open KeyT (key)
instance : KeyT Int := ⟨.inl, fun _ => rfl, fun _ _ e => Sum.inl.inj e, fun _ _ _ _ _ h => rb_i h⟩
instance : KeyT Tx := ⟨fun x => .inr ⟨x.cs.toArray⟩, fun _ => rfl, fun k l e => by
  have := congrArg Str.cps (Sum.inr.inj e)
  have h : k.cs = l.cs := by simpa using this
  cases k; cases l; cases h; rfl, fun _ _ _ _ _ h => rb_t h⟩
structure Dct (κ τ : Type) where
  es : List (κ × τ)
def eE [Enc κ] [Enc τ] (q : κ × τ) : PyData × PyData := (enc q.1, enc q.2)
instance [Enc κ] [Enc τ] : Enc (Dct κ τ) := ⟨fun d => .dict (d.es.map eE)⟩
def kGet [DecidableEq κ] (d : Dct κ τ) (k : κ) : Option τ := (d.es.find? fun q => decide (q.1 = k)).map (·.2)
def kIn [DecidableEq κ] (k : κ) (d : Dct κ τ) : Option Bool := some (kGet d k).isSome
def kNin [DecidableEq κ] (k : κ) (d : Dct κ τ) : Option Bool := some (!(kGet d k).isSome)
def kPut [DecidableEq κ] (d : Dct κ τ) (k : κ) (t : τ) : Option (Dct κ τ) :=
  if d.es.length < sizeLine then some ⟨if (d.es.any fun q => decide (q.1 = k)) = true then d.es.map (fun q => if q.1 = k then (q.1, t) else q) else d.es ++ [(k, t)]⟩ else none
section
variable {K : PySem.W.Frag} {H : Hp} {T : Ad} {v : V}
theorem rb_d [Enc κ] [Enc τ] {d : Dct κ τ} (h : Rb K H T (enc d) v) : ∃ a es, v = .ref a ∧ Rd H a (.dK es) ∧ RpK K H T (d.es.map eE) es := by
  rcases h with ⟨a, es, e, h1, h2⟩ | ⟨_, _, _, e, _⟩ | ⟨kvs, a, es, e, rfl, h1, h2⟩
  · exact ⟨a, es, e, h1.1, h2⟩
  · cases e
  · cases e
    exact ⟨a, es, rfl, h1, h2⟩
variable [Enc κ] [Enc τ] [DecidableEq κ] [KeyT κ]
theorem rpk_get (k : κ) : ∀ {es : List (κ × τ)} {ks : List (Key × V)}, RpK K H T (es.map eE) ks →
    (∃ t v, kGet ⟨es⟩ k = some t ∧ valV ks (key k) = some v ∧ Rp K H T (enc t) v) ∨ (kGet ⟨es⟩ k = none ∧ valV ks (key k) = none)
  | [], ks, h => by
    have h : ks = [] := h
    subst h
    exact .inr ⟨rfl, rfl⟩
  | (k', t) :: es, ks, h => by
    obtain ⟨i, v, vs, rfl, hk, h1, h2⟩ := h
    have hk : i = key k' := by
      have := KeyT.kd k'
      exact Option.some.inj (hk.symm.trans this)
    subst hk
    by_cases c : k' = k
    · subst c
      exact .inl ⟨t, v, by simp [kGet, List.find?_cons], valV_pos rfl, h1⟩
    · have c2 : key k' ≠ key k := fun z => c (KeyT.inj _ _ z)
      rcases rpk_get k h2 with ⟨t2, v2, g1, g2, g3⟩ | ⟨g1, g2⟩
      · exact .inl ⟨t2, v2, by simpa [kGet, List.find?_cons, c] using g1, by simpa [valV, List.find?_cons, c2] using g2, g3⟩
      · exact .inr ⟨by simpa [kGet, List.find?_cons, c] using g1, by simpa [valV, List.find?_cons, c2] using g2⟩
theorem rpk_any (k : κ) : ∀ {es : List (κ × τ)} {ks : List (Key × V)}, RpK K H T (es.map eE) ks → (ks.any fun kv => decide (kv.1 = key k)) = es.any fun q => decide (q.1 = k)
  | [], ks, h => by
    have h : ks = [] := h
    subst h
    rfl
  | (k', t) :: es, ks, h => by
    obtain ⟨i, v, vs, rfl, hk, h1, h2⟩ := h
    have hk : i = key k' := Option.some.inj (hk.symm.trans (KeyT.kd k'))
    subst hk
    rw [List.any_cons, List.any_cons, rpk_any k h2]
    congr 1
    exact decide_eq_decide.mpr ⟨fun z => KeyT.inj _ _ z, fun z => by have z : k' = k := z; rw [z]⟩
theorem rpk_map (k : κ) {t : τ} {v : V} (hv : Rp K H T (enc t) v) : ∀ {es : List (κ × τ)} {ks : List (Key × V)}, RpK K H T (es.map eE) ks →
    RpK K H T ((es.map fun q => if q.1 = k then (q.1, t) else q).map eE) (ks.map fun kv => if kv.1 = key k then (kv.1, v) else kv)
  | [], ks, h => by
    have h : ks = [] := h
    subst h
    rfl
  | (k', t') :: es, ks, h => by
    obtain ⟨i, v', vs, rfl, hk, h1, h2⟩ := h
    have hk2 : i = key k' := Option.some.inj (hk.symm.trans (KeyT.kd k'))
    subst hk2
    by_cases c : k' = k
    · have c2 : key k' = key k := by rw [c]
      refine ⟨key k', v, _, ?_, ?_, ?_, rpk_map k hv h2⟩
      · simp [c2]
      · simp only [if_pos c]; exact KeyT.kd k'
      · simp only [if_pos c]; exact hv
    · have c2 : key k' ≠ key k := fun z => c (KeyT.inj _ _ z)
      refine ⟨key k', v', _, ?_, ?_, ?_, rpk_map k hv h2⟩
      · simp [c2]
      · simp only [if_neg c]; exact KeyT.kd k'
      · simp only [if_neg c]; exact h1
theorem rpk_app (k : κ) {t : τ} {v : V} (hv : Rp K H T (enc t) v) : ∀ {es : List (κ × τ)} {ks : List (Key × V)}, RpK K H T (es.map eE) ks → RpK K H T ((es ++ [(k, t)]).map eE) (ks ++ [(key k, v)])
  | [], ks, h => by
    have h : ks = [] := h
    subst h
    exact ⟨_, _, _, rfl, KeyT.kd k, hv, rfl⟩
  | (k', t') :: es, ks, h => by
    obtain ⟨i, v', vs, rfl, hk, h1, h2⟩ := h
    exact ⟨i, v', _, rfl, hk, h1, rpk_app k hv h2⟩
theorem rpk_put (k : κ) {t : τ} {v : V} (hv : Rp K H T (enc t) v) {es : List (κ × τ)} {ks : List (Key × V)} (h : RpK K H T (es.map eE) ks) :
    RpK K H T ((if (es.any fun q => decide (q.1 = k)) = true then es.map (fun q => if q.1 = k then (q.1, t) else q) else es ++ [(k, t)]).map eE) (putK ks (key k) v) := by
  unfold putK
  rw [rpk_any k h]
  by_cases c : (es.any fun q => decide (q.1 = k)) = true
  · rw [if_pos c, if_pos c]; exact rpk_map k hv h
  · rw [if_neg c, if_neg c]; exact rpk_app k hv h
theorem rpk_len : ∀ {es : List (κ × τ)} {ks : List (Key × V)}, RpK K H T (es.map eE) ks → ks.length = es.length
  | [], ks, h => by
    have h : ks = [] := h
    subst h
    rfl
  | _ :: es, ks, h => by
    obtain ⟨i, v', vs, rfl, hk, h1, h2⟩ := h
    simp [rpk_len h2]
end
variable [Enc κ] [Enc τ] [DecidableEq κ] [KeyT κ] {fd : Γ → Option (Dct κ τ)} {fk : Γ → Option κ} {o i : Expr}
theorem pv_dict : PV X sl .f (.Dict [] [] pos) (fun _ => some (⟨[]⟩ : Dct κ τ)) := PE.imp pe_dnewK fun σ H Q ⟨γ, S0, S, t, E, hf, q⟩ p hp => by
  cases hf
  exact q _ _ (same_new hp) ⟨p, rfl, hp, .inr ⟨[], [], rfl, upd_same, rfl⟩⟩
theorem pv_dget (hu : X.A.units + 64 < cLine) (ho : PV X sl .b o fd) (hi : PV X sl .b i fk) (hs : NoSl i := by intro _ _; rfl) : PV X sl .a (.Subscript o i pos) (fun s => (fd s).bind fun x => (fk s).bind fun y => kGet x y) :=
  PE.imp (pe_dget (by omega) ho hi hs) fun σ H Q ⟨γ, S0, S, t, E, hf, q⟩ => by
    obtain ⟨u, w, h1, h2, h3⟩ := bind2 hf
    refine ⟨γ, S0, S, u, E, h1, fun x H1 s1 r1 => ⟨γ, S0, S, w, E.same s1, h2, fun y H2 s2 r2 => ?_⟩⟩
    obtain ⟨a, es, rfl, g1, g2⟩ := rb_d (Rb.mv (.same s2) r1 s2)
    obtain rfl := KeyT.rp _ _ _ _ _ r2
    rcases rpk_get w g2 with ⟨t', v, e1, e2, e3⟩ | ⟨e1, _⟩
    · have e4 : t' = t := Option.some.inj (e1.symm.trans h3)
      subst e4
      exact ⟨a, v, rfl, .inl ⟨es, _, g1, rfl, e2.symm⟩, q _ H2 (s1.trans s2) e3⟩
    · have e1 : kGet u w = none := e1
      rw [e1] at h3; cases h3

theorem pv_inD (hu : X.A.units + 64 < cLine) (hi : PV X sl .b i fk) (ho : PV X sl .b o fd) (hm : behindInMarks .In o = false := by first | exact nomark _ | with_unfolding_all rfl) : PV X sl .a (.Compare i [.In] [o] pos) (fun s => (fk s).bind fun y => (fd s).bind fun x => kIn y x) :=
  PE.imp (pe_cmp (pc_din (by omega) hi ho) hm) fun σ H Q ⟨γ, S0, S, t, E, hf, q⟩ => by
    obtain ⟨u, w, h1, h2, h3⟩ := bind2 hf
    cases h3
    refine ⟨γ, S0, S, u, E, h1, fun x H1 s1 r1 => ⟨γ, S0, S, w, E.same s1, h2, fun y H2 s2 r2 => ?_⟩⟩
    obtain ⟨a, es, rfl, g1, g2⟩ := rb_d r2
    obtain rfl := KeyT.rp _ _ _ _ _ r1
    refine ⟨a, _, rfl, .inl ⟨es, _, g1, rfl, rfl⟩, q _ H2 (s1.trans s2) ?_⟩
    rcases rpk_get u g2 with ⟨t', v, e1, e2, e3⟩ | ⟨e1, e2⟩
    · rw [e2]; show V.bl _ = V.bl _; rw [show kGet w u = some t' from e1]; rfl
    · rw [e2]; show V.bl _ = V.bl _; rw [show kGet w u = none from e1]; rfl
theorem pv_ninD (hu : X.A.units + 64 < cLine) (hi : PV X sl .b i fk) (ho : PV X sl .b o fd) (hm : behindInMarks .NotIn o = false := by first | exact nomark _ | with_unfolding_all rfl) : PV X sl .a (.Compare i [.NotIn] [o] pos) (fun s => (fk s).bind fun y => (fd s).bind fun x => kNin y x) :=
  PE.imp (pe_cmp (pc_dnotin (by omega) hi ho) hm) fun σ H Q ⟨γ, S0, S, t, E, hf, q⟩ => by
    obtain ⟨u, w, h1, h2, h3⟩ := bind2 hf
    cases h3
    refine ⟨γ, S0, S, u, E, h1, fun x H1 s1 r1 => ⟨γ, S0, S, w, E.same s1, h2, fun y H2 s2 r2 => ?_⟩⟩
    obtain ⟨a, es, rfl, g1, g2⟩ := rb_d r2
    obtain rfl := KeyT.rp _ _ _ _ _ r1
    refine ⟨a, _, rfl, .inl ⟨es, _, g1, rfl, rfl⟩, q _ H2 (s1.trans s2) ?_⟩
    rcases rpk_get u g2 with ⟨t', v, e1, e2, e3⟩ | ⟨e1, e2⟩
    · rw [e2]; show V.bl _ = V.bl _; rw [show kGet w u = some t' from e1]; rfl
    · rw [e2]; show V.bl _ = V.bl _; rw [show kGet w u = none from e1]; rfl
theorem pb_inD (hu : X.A.units + 64 < cLine) (hi : PV X sl .b i fk) (ho : PV X sl .b o fd) (hm : behindInMarks .In o = false := by first | exact nomark _ | with_unfolding_all rfl) : PB X sl (.Compare i [.In] [o] pos) (fun s => (fk s).bind fun y => (fd s).bind fun x => kIn y x) :=
  PT.imp (pt_cmp (pc_din (by omega) hi ho) hm) fun σ H Q ⟨γ, S0, S, t, E, hf, q⟩ => by
    obtain ⟨u, w, h1, h2, h3⟩ := bind2 hf
    cases h3
    refine ⟨γ, S0, S, u, E, h1, fun x H1 s1 r1 => ⟨γ, S0, S, w, E.same s1, h2, fun y H2 s2 r2 => ?_⟩⟩
    obtain ⟨a, es, rfl, g1, g2⟩ := rb_d r2
    obtain rfl := KeyT.rp _ _ _ _ _ r1
    refine ⟨a, _, rfl, .inl ⟨es, _, g1, rfl, rfl⟩, ⟨_, ?_, q H2 (s1.trans s2)⟩⟩
    rcases rpk_get u g2 with ⟨t', v, e1, e2, e3⟩ | ⟨e1, e2⟩
    · rw [e2]; show V.bl _ = V.bl _; rw [show kGet w u = some t' from e1]; rfl
    · rw [e2]; show V.bl _ = V.bl _; rw [show kGet w u = none from e1]; rfl
theorem pb_ninD (hu : X.A.units + 64 < cLine) (hi : PV X sl .b i fk) (ho : PV X sl .b o fd) (hm : behindInMarks .NotIn o = false := by first | exact nomark _ | with_unfolding_all rfl) : PB X sl (.Compare i [.NotIn] [o] pos) (fun s => (fk s).bind fun y => (fd s).bind fun x => kNin y x) :=
  PT.imp (pt_cmp (pc_dnotin (by omega) hi ho) hm) fun σ H Q ⟨γ, S0, S, t, E, hf, q⟩ => by
    obtain ⟨u, w, h1, h2, h3⟩ := bind2 hf
    cases h3
    refine ⟨γ, S0, S, u, E, h1, fun x H1 s1 r1 => ⟨γ, S0, S, w, E.same s1, h2, fun y H2 s2 r2 => ?_⟩⟩
    obtain ⟨a, es, rfl, g1, g2⟩ := rb_d r2
    obtain rfl := KeyT.rp _ _ _ _ _ r1
    refine ⟨a, _, rfl, .inl ⟨es, _, g1, rfl, rfl⟩, ⟨_, ?_, q H2 (s1.trans s2)⟩⟩
    rcases rpk_get u g2 with ⟨t', v, e1, e2, e3⟩ | ⟨e1, e2⟩
    · rw [e2]; show V.bl _ = V.bl _; rw [show kGet w u = some t' from e1]; rfl
    · rw [e2]; show V.bl _ = V.bl _; rw [show kGet w u = none from e1]; rfl
/-- d[k] = v, d an owned dict -/
theorem sv_dput [Enc ρ] {x : Str} {j : Nat} {value ix : Expr} {fv : Γ → Option τ} {p0 p1 : Pos} (q : Γ → Dct κ τ) (set : Γ → Dct κ τ → Γ') (hu : X.A.units + 64 < cLine) (hq : ∀ g, (sl g)[j]? = some (some (.o, enc (q g)))) (h : ∀ g t, sl' (set g t) = (sl g).set j (some (.o, enc t)))
    (hv : PV X sl .a value fv) (hi : PV X sl .b ix fk) (hN : X.N[j]? = some x := by rfl)
    (hvis : Vis X.env.scope x := by first | exact Or.inl rfl | exact Or.inr (Or.inl rfl) | exact Or.inr (Or.inr rfl)) (hd : (x == ("__debug__" : Str)) = false := by decide) (hcd : (x == ("__classdict__" : Str)) = false := by decide)
    (hs : swapsWith value (some (.Subscript (.Name x p0) ix p1)) pos.line X.env = pure false := by rfl) :
    SV (ρ := ρ) X sl sl' kr (.Assign [.Subscript (.Name x p0) ix p1] value pos) (fun g => (fv g).bind fun t => (fk g).bind fun k => (kPut (q g) k t).bind fun l => some (.nx (set g l))) :=
  PS.imp (ps_dput (by omega) (pe_var (i := j) hN hvis hd hcd) hi hv hs) fun D σ H ⟨γ, S0, S, o, E, hf, p⟩ => by
    obtain ⟨t, e1, e2⟩ := bind1 hf
    obtain ⟨k, e3, e4⟩ := bind1 e2
    obtain ⟨l, e5, e6⟩ := bind1 e4
    cases e6
    obtain ⟨hz, rfl⟩ := if_some e5
    refine ⟨γ, S0, S, t, E, e1, fun y H1 s1 r1 => ?_⟩
    have E1 := E.same s1
    obtain ⟨v, h1, a, rfl, h2, h3⟩ := E1.at_ j _ _ (hq γ)
    refine ⟨_, h1, γ, S0, S, k, E1, e3, fun z H2 s2 r2 => ?_⟩
    have E2 := E1.same s2
    obtain rfl := KeyT.rp _ _ _ _ _ r2
    rcases h3 with ⟨_, _, e1', _⟩ | ⟨kvs, es, e1', g1, g2⟩
    · cases e1'
    · cases e1'
      have g3 := s2 _ _ g1
      have g4 : RpK X.K H2 (un S S0) ((q γ).es.map eE) es := RpK.mv (.same s2) _ _ g2
      refine ⟨a, _, rfl, .inl ⟨es, _, g3, rfl, by rw [rpk_len g4]; exact hz, rfl⟩, ?_⟩
      obtain ⟨mv, E3⟩ := E2.chg (u := .dK (putK es (KeyT.key k) y)) (d' := enc (⟨if ((q γ).es.any fun q => decide (q.1 = k)) = true then (q γ).es.map (fun q => if q.1 = k then (q.1, t) else q) else (q γ).es ++ [(k, t)]⟩ : Dct κ τ)) (hq γ) h1 h2 fun mv => .inr ⟨_, _, rfl, upd_same, by
        have g5 := RpK.mv mv.un _ _ g4
        have r3 : Rp X.K _ _ (enc t) y := Rp.mv mv.un _ _ (Rp.mv (.same s2) _ _ r1)
        exact rpk_put k r3 g5⟩
      refine p _ _ S ?_ ((Mv.same (s1.trans s2)).trans mv)
      rw [h]
      exact E3
end PL

/-! PL13: texts. -/
namespace PL
open PySem PySem.Spec L2
open Enc (enc)
variable {Γ Γ' ρ τ : Type} {X : Cx} {sl : Γ → Sl} {sl' : Γ' → Sl} {e o i : Expr} {pos apos : Pos} {kr : Kd}
def jL (a : List Nat) : List (List Nat) → List Nat
  | [] => []
  | [p] => p
  | p :: q :: r => p ++ (a ++ jL a (q :: r))
theorem jL_eq (a : List Nat) : ∀ ys, TL.joinL a ys = jL a ys
  | [] => rfl
  | [p] => rfl
  | p :: q :: r => by
    have := jL_eq a (q :: r)
    show p ++ (a ++ TL.joinL a (q :: r)) = p ++ (a ++ jL a (q :: r))
    rw [this]
def tJn (x : Tx) (ys : List Tx) : Option Tx := if (ys.map fun t => t.cs.length).sum + ys.length * x.cs.length ≤ 16777216 then some ⟨jL x.cs (ys.map fun t => t.cs)⟩ else none
theorem rpa_txs {K : PySem.W.Frag} {H : Hp} {T : Ad} : ∀ {t : List Tx} {xs : List V}, RpA K H T (t.map enc) xs → xs = ((t.map fun q => q.cs).map SX.S).map V.str
  | [], xs, h => by have h : xs = [] := h; rw [h]; rfl
  | t :: ts, xs, h => by
    obtain ⟨v, vs, rfl, h1, h2⟩ := h
    have h1 : v = .str ⟨t.cs.toArray⟩ := h1
    rw [rpa_txs h2, h1]
    rfl
theorem pv_join {fo : Γ → Option Tx} {fe : Γ → Option (List Tx)} (ho : PV X sl .b o fo) (he : PV X sl .b e fe) (hs : starEach [e] X.env = [(false, eval e X.env)] := by rfl) (hbase : attributeBase o "join" X.env (eval o X.env) = eval o X.env := by rfl) (hline : (apos.endLine == pos.line) = true := by rfl) :
    PV X sl .a (.Call (.Attribute o "join" apos) [e] [] pos) (fun s => (fo s).bind fun x => (fe s).bind fun y => tJn x y) :=
  PE.imp (pe_join ho he hs hbase hline) fun σ H Q ⟨γ, S0, S, t, E, hf, q⟩ => by
    obtain ⟨u, w, h1, h2, h3⟩ := bind2 hf
    obtain ⟨hz, rfl⟩ := if_some h3
    refine ⟨γ, S0, S, u, E, h1, fun x H1 s1 r1 => ⟨⟨_, rb_t r1⟩, γ, S0, S, w, E.same s1, h2, fun y H2 s2 r2 => ?_⟩⟩
    obtain ⟨p, xs, rfl, g1, g2⟩ := rb_l r2
    refine ⟨_, p, (w.map fun q => q.cs).map SX.S, rb_t r1, rfl, .inl (by rw [← rpa_txs g2]; exact g1), ?_, q _ H2 (s1.trans s2) ?_⟩
    · simp only [List.map_map, List.length_map]
      exact hz
    · have := SX.join_S u.cs (w.map fun q => q.cs)
      rw [jL_eq] at this
      show V.str _ = V.str _
      exact congrArg V.str this

/-- the first place of a sign -/
def fIx (c : Nat) : List Nat → Nat → Option Nat
  | [], _ => none
  | d :: l, n => if d = c then some n else fIx c l (n + 1)
def tIndex (x y : Tx) : Option Int := match y.cs with
  | [c] => (fIx c x.cs 0).map fun n => (n : Int)
  | _ => none
theorem fIx_spec {c : Nat} : ∀ {l : List Nat} {n k : Nat}, fIx c l n = some k → ∃ i, k = n + i ∧ l[i]? = some c ∧ ∀ j, j < i → l[j]? ≠ some c
  | [], n, k, h => by cases h
  | d :: l, n, k, h => by
    unfold fIx at h
    by_cases e : d = c
    · rw [if_pos e] at h; cases h
      exact ⟨0, rfl, by rw [e]; rfl, fun j hj => by omega⟩
    · rw [if_neg e] at h
      obtain ⟨i, h1, h2, h3⟩ := fIx_spec h
      refine ⟨i + 1, by omega, by simpa using h2, fun j hj => ?_⟩
      cases j with
      | zero => intro z; exact e (by simpa using z)
      | succ j => have := h3 j (by omega); simpa using this
theorem occ_fst {l : List Nat} {c i : Nat} (h1 : l[i]? = some c) (h2 : ∀ j, j < i → l[j]? ≠ some c) : ∃ r, Builtin.Str.occurrences (SX.S l) ⟨#[c]⟩ 0 (SX.S l).length 1 = i :: r := by
  rw [StrLaws.occ_eq]
  have at_iff : ∀ j, StrLaws.At (SX.S l) ⟨#[c]⟩ (SX.S l).length j ↔ l[j]? = some c := fun j => by
    have := StrLaws.subAt_one (SX.S l) c j
    simpa [StrLaws.At] using this
  have il : i < l.length := by
    rcases Nat.lt_or_ge i l.length with h | h
    · exact h
    · rw [List.getElem?_eq_none h] at h1; cases h1
  rcases StrLaws.occ_first (SX.S l) ⟨#[c]⟩ (SX.S l).length 1 (Nat.le_refl 1) (List.range' 0 ((SX.S l).length + 1 - 0)) 0 (fun _ _ => Nat.zero_le _) with ⟨_, h⟩ | ⟨pre, a, post, e, h, ha, hp⟩
  · refine absurd ((at_iff i).mpr h1) (h i ?_)
    rw [List.mem_range'_1]
    refine ⟨Nat.zero_le _, ?_⟩
    show i < 0 + (l.toArray.size + 1 - 0)
    simp; omega
  · have e1 : a = i := by
      have ha2 := (at_iff a).mp ha
      have e2 : pre.length = a := by
        have := congrArg (fun q => q[pre.length]?) e
        simp only [List.getElem?_append_right (Nat.le_refl _), Nat.sub_self, List.getElem?_cons_zero] at this
        rw [List.getElem?_range'] at this
        · simpa using this
        · have := congrArg List.length e
          simp at this ⊢
          omega
      rcases Nat.lt_trichotomy a i with h3 | h3 | h3
      · exact absurd ha2 (h2 a h3)
      · exact h3
      · refine absurd ((at_iff i).mpr h1) (hp i ?_)
        have : pre[i]? = some i := by
          have := congrArg (fun q => q[i]?) e
          simp only [List.getElem?_append_left (show i < pre.length by omega)] at this
          rw [List.getElem?_range'] at this
          · simpa using this.symm
          · have := congrArg List.length e
            simp at this ⊢
            omega
        exact List.mem_of_getElem? this
    subst e1
    cases q : (forIn (List.range' 0 ((SX.S l).length + 1 - 0)) ((#[] : Array Nat), 0) (StrLaws.occBody (SX.S l) ⟨#[c]⟩ (SX.S l).length 1)).run.fst.toList with
    | nil =>
      have h' := h
      rw [← Array.getElem?_toList, q] at h'
      cases h'
    | cons b r =>
      refine ⟨r, ?_⟩
      have h' := h
      rw [← Array.getElem?_toList, q] at h'
      cases h'
      rfl
theorem pv_indexS {fo fe : Γ → Option Tx} (ho : PV X sl .b o fo) (he : PV X sl .b e fe) (hs : starEach [e] X.env = [(false, eval e X.env)] := by rfl) (hbase : attributeBase o "index" X.env (eval o X.env) = eval o X.env := by rfl) (hline : (apos.endLine == pos.line) = true := by rfl) :
    PV X sl .a (.Call (.Attribute o "index" apos) [e] [] pos) (fun s => (fo s).bind fun x => (fe s).bind fun y => tIndex x y) :=
  PE.imp (pe_m1 PySem.F.slot_str_index PySem.F.type_str_index mt_sindex ho he hs hbase hline) fun σ H Q ⟨γ, S0, S, t, E, hf, q⟩ => by
    obtain ⟨u, w, h1, h2, h3⟩ := bind2 hf
    refine ⟨γ, S0, S, u, E, h1, fun x H1 s1 r1 => ⟨⟨_, rb_t r1⟩, γ, S0, S, w, E.same s1, h2, fun y H2 s2 r2 => ?_⟩⟩
    obtain ⟨ucs⟩ := u
    obtain ⟨wcs⟩ := w
    unfold tIndex at h3
    rcases wcs with _ | ⟨c, _ | _⟩
    · cases h3
    · simp only at h3
      cases e5 : fIx c ucs 0 with
      | none => rw [e5] at h3; cases h3
      | some k =>
        rw [e5] at h3
        cases h3
        obtain ⟨i, e6, g1, g2⟩ := fIx_spec e5
        rw [Nat.zero_add] at e6
        subst e6
        obtain ⟨r, g3⟩ := occ_fst g1 g2
        exact ⟨_, _, k, r, rb_t r1, by rw [rb_t r2], g3, q _ H2 (s1.trans s2) rfl⟩
    · cases h3
/-- membership of one sign -/
def tIn (y x : Tx) : Option Bool := match y.cs with
  | [c] => some (decide (c ∈ x.cs))
  | _ => none
def c_inT : Cmp X .In Tx Tx (fun y x => tIn y x) := ⟨_, op_in_str, fun T H x y u w t Q hT r1 r2 e q => by
  obtain ⟨ucs⟩ := u
  obtain ⟨wcs⟩ := w
  unfold tIn at e
  rcases ucs with _ | ⟨c, _ | _⟩
  · cases e
  · cases e
    refine ⟨_, _, rb_t r1, rb_t r2, q _ H (Same.refl H) ?_⟩
    exact congrArg V.bl (StrLaws.found_one ⟨wcs.toArray⟩ c)
  · cases e⟩

def c_ninT : Cmp X .NotIn Tx Tx (fun y x => (tIn y x).map (!·)) := ⟨_, op_notin_str, fun T H x y u w t Q hT r1 r2 e q => by
  obtain ⟨ucs⟩ := u
  obtain ⟨wcs⟩ := w
  unfold tIn at e
  rcases ucs with _ | ⟨c, _ | _⟩
  · cases e
  · cases e
    refine ⟨_, _, rb_t r1, rb_t r2, q _ H (Same.refl H) ?_⟩
    exact congrArg (fun z => V.bl (!z)) (StrLaws.found_one ⟨wcs.toArray⟩ c)
  · cases e⟩
/-- one sign, many times -/
def tRep (x : Tx) (n : Int) : Option Tx := match x.cs with
  | [c] => if -(2 ^ 62) ≤ n ∧ n ≤ 16777216 then some ⟨List.replicate n.toNat c⟩ else none
  | _ => none
theorem op_repT1 : OpR X (binaryOp .Mult) (fun x y H Q => ∃ (c : Nat) (n : Int), x = .str ⟨#[c]⟩ ∧ y = .int n ∧ -(2 ^ 62) ≤ n ∧ n ≤ 16777216 ∧ Q (.str (SX.S (List.replicate n.toNat c))) H) := by
  intro pins s σ H x y v u Q I rx ry h
  obtain ⟨c, n, rfl, rfl, h1, h2, q⟩ := h
  obtain ⟨t, rfl⟩ := rx
  obtain ⟨t2, rfl⟩ := ry
  refine SB.mul ⟨?_, fun h3 h4 => ?_, fun h3 h4 => ?_⟩ fun t' k => ⟨.str _, H, I.tok _, ⟨t', ?_⟩, q⟩
  · rw [Bool.or_eq_false_iff]; exact ⟨decide_eq_false (by omega), decide_eq_false (by omega)⟩
  · show ¬ (((1 : Nat) : Int) > (2 ^ 63 - 1) / n)
    have : (1 : Int) ≤ (2 ^ 63 - 1) / n := (Int.le_ediv_iff_mul_le (by omega)).mpr (by omega)
    omega
  · show Builtin.Str.tooLong (1 * n.toNat) = false
    unfold Builtin.Str.tooLong
    exact decide_eq_false (by rw [show sizeLine = 16777216 by decide]; omega)
  · have := PyProof.Rows.mul_one_list c n
    congr 1
    rw [← this]
theorem pv_repS {a b : Expr} {fa : Γ → Option Tx} {fb : Γ → Option Int} (ha : PV X sl .b a fa) (hb : PV X sl .b b fb) : PV X sl .a (.BinOp a .Mult b pos) (fun s => (fa s).bind fun x => (fb s).bind fun y => tRep x y) :=
  pv_2 (pe_op op_repT1) (fun T H x y u w t Q hT r1 r2 e q => by
    obtain ⟨ucs⟩ := u
    unfold tRep at e
    rcases ucs with _ | ⟨c, _ | _⟩
    · cases e
    · simp only at e
      obtain ⟨⟨h1, h2⟩, rfl⟩ := if_some e
      exact ⟨c, w, by rw [rb_t r1], rb_i r2, h1, h2, q _ H (Same.refl H) rfl⟩
    · cases e) ha hb
end PL

/-! PL14: several names at once, one of them a new list or dict. -/
namespace PL
open PySem PySem.Spec L2
open Enc (enc)
variable {Γ Γ' ρ τ α β γ' : Type} {X : Cx} {sl : Γ → Sl} {sl' : Γ' → Sl} {a b c e o i : Expr} {pos apos : Pos} {kr : Kd}
theorem Fr.fwd {K : PySem.W.Frag} {H H1 H2 : Hp} {T : Ad} {d : PyData} {v : V} (h : Fr K H H1 T d v) (s : Same H1 H2) : Fr K H H2 T d v := by
  obtain ⟨p, rfl, hp, ⟨ds, xs, rfl, h1, h2⟩ | ⟨ds, xs, rfl, h1, h2⟩⟩ := h
  · exact ⟨p, rfl, hp, .inl ⟨ds, xs, rfl, s _ _ h1, h2.mv (.same s)⟩⟩
  · exact ⟨p, rfl, hp, .inr ⟨ds, xs, rfl, s _ _ h1, RpK.mv (.same s) _ _ h2⟩⟩
/-- the variables as they are, while a new object waits -/
theorem EnvS.wait {K : PySem.W.Frag} {S0 S : Ad} {H H' : Hp} {l : Sl} {σ : L2.St} {d : PyData} {v : V} (E : EnvS K S0 S H l σ) (s : Same H H') (r : Fr K H H' (un S S0) d v) : ∃ p, v = .ref p ∧ Mv S H (wi S p) H' ∧ EnvS K S0 (wi S p) H' l σ := by
  obtain ⟨p, e, m, q⟩ := E.seto' (i := l.length) s r
  rw [List.set_eq_of_length_le (Nat.le_refl _), List.set_eq_of_length_le (by rw [E.len]; exact Nat.le_refl _)] at q
  exact ⟨p, e, m, q⟩
theorem sv_par3_aoa [Enc ρ] [Enc α] [Enc β] [Enc γ'] {i j l : Nat} {x y z : Str} {px py pz pt : Pos} {kt k2 : Nat} {pt2 : Pos} {fa : Γ → Option α} {fb : Γ → Option β} {fc : Γ → Option γ'} (set : Γ → α → β → γ' → Γ') (h : ∀ g t u v, sl' (set g t u v) = (((sl g).set i (some (.a, enc t))).set j (some (.o, enc u))).set l (some (.a, enc v)))
    (hN : X.N.Nodup) (ha : PV X sl .a a fa) (hb : PV X sl .f b fb) (hc' : PV X sl .a c fc) (hij : i ≠ j := by decide) (hil : i ≠ l := by decide) (hjl : j ≠ l := by decide) (hi : X.N[i]? = some x := by rfl) (hj : X.N[j]? = some y := by rfl) (hl : X.N[l]? = some z := by rfl)
    (hx : X.env.scope.names.lookup x = some .local := by rfl) (hy : X.env.scope.names.lookup y = some .local := by rfl) (hz : X.env.scope.names.lookup z = some .local := by rfl) (hc : X.calm = true := by rfl)
    (h1 : starEach [a, b, c] X.env = (false, eval a X.env) :: starEach [b, c] X.env := by rfl) (h2 : starEach [b, c] X.env = (false, eval b X.env) :: starEach [c] X.env := by rfl) (h3 : starEach [c] X.env = (false, eval c X.env) :: starEach [] X.env := by rfl)
    (hw : swappedStores [.Tuple [.Name x px, .Name y py, .Name z pz] kt pt] (.Tuple [a, b, c] k2 pt2) X.env = pure (some [x, y, z]) := by rfl)
    (hs : swapsWithSole [.Tuple [.Name x px, .Name y py, .Name z pz] kt pt] (.Tuple [a, b, c] k2 pt2) pos.line X.env = pure false := by rfl) :
    SV (ρ := ρ) X sl sl' kr (.Assign [.Tuple [.Name x px, .Name y py, .Name z pz] kt pt] (.Tuple [a, b, c] k2 pt2) pos) (fun g => (fa g).bind fun t => (fb g).bind fun u => (fc g).bind fun v => some (.nx (set g t u v))) :=
  PS.imp (ps_par3 hc hN hi hj hl hij hil hjl hx hy hz (pa_cons ha (pa_cons hb (pa_cons hc' pa_nil h3) h2) h1) hw hs) fun D σ H ⟨γ, S0, S, o, E, hf, p⟩ => by
    obtain ⟨t, u, e1, e2, e3⟩ := bind2 hf
    obtain ⟨v, e4, e5⟩ := bind1 e3
    cases e5
    refine ⟨γ, S0, S, t, E, e1, fun v1 H1 s1 r1 => ⟨γ, S0, S, u, E.same s1, e2, fun v2 H2 s2 r2 => ?_⟩⟩
    have E1 := E.same s1
    obtain ⟨p2, q2, m2, E2⟩ := E1.wait s2 r2
    refine ⟨γ, S0, _, v, E2, e4, fun v3 H3 s3 r3 => ⟨v1, v2, v3, rfl, ?_⟩⟩
    have s23 := s2.trans s3
    obtain ⟨p3, q3, m3, E3⟩ := (E1.seta (i := i) r1).seto' (i := j) s23 (r2.fwd s3)
    have e : p2 = p3 := by
      have := q2.symm.trans q3
      injection this
    subst e
    refine p _ _ _ ?_ ((Mv.same s1).trans m3)
    rw [h]
    exact E3.seta r3
theorem sv_par3_oaa [Enc ρ] [Enc α] [Enc β] [Enc γ'] {i j l : Nat} {x y z : Str} {px py pz pt : Pos} {kt k2 : Nat} {pt2 : Pos} {fa : Γ → Option α} {fb : Γ → Option β} {fc : Γ → Option γ'} (set : Γ → α → β → γ' → Γ') (h : ∀ g t u v, sl' (set g t u v) = (((sl g).set i (some (.o, enc t))).set j (some (.a, enc u))).set l (some (.a, enc v)))
    (hN : X.N.Nodup) (ha : PV X sl .f a fa) (hb : PV X sl .a b fb) (hc' : PV X sl .a c fc) (hij : i ≠ j := by decide) (hil : i ≠ l := by decide) (hjl : j ≠ l := by decide) (hi : X.N[i]? = some x := by rfl) (hj : X.N[j]? = some y := by rfl) (hl : X.N[l]? = some z := by rfl)
    (hx : X.env.scope.names.lookup x = some .local := by rfl) (hy : X.env.scope.names.lookup y = some .local := by rfl) (hz : X.env.scope.names.lookup z = some .local := by rfl) (hc : X.calm = true := by rfl)
    (h1 : starEach [a, b, c] X.env = (false, eval a X.env) :: starEach [b, c] X.env := by rfl) (h2 : starEach [b, c] X.env = (false, eval b X.env) :: starEach [c] X.env := by rfl) (h3 : starEach [c] X.env = (false, eval c X.env) :: starEach [] X.env := by rfl)
    (hw : swappedStores [.Tuple [.Name x px, .Name y py, .Name z pz] kt pt] (.Tuple [a, b, c] k2 pt2) X.env = pure (some [x, y, z]) := by rfl)
    (hs : swapsWithSole [.Tuple [.Name x px, .Name y py, .Name z pz] kt pt] (.Tuple [a, b, c] k2 pt2) pos.line X.env = pure false := by rfl) :
    SV (ρ := ρ) X sl sl' kr (.Assign [.Tuple [.Name x px, .Name y py, .Name z pz] kt pt] (.Tuple [a, b, c] k2 pt2) pos) (fun g => (fa g).bind fun t => (fb g).bind fun u => (fc g).bind fun v => some (.nx (set g t u v))) :=
  PS.imp (ps_par3 hc hN hi hj hl hij hil hjl hx hy hz (pa_cons ha (pa_cons hb (pa_cons hc' pa_nil h3) h2) h1) hw hs) fun D σ H ⟨γ, S0, S, o, E, hf, p⟩ => by
    obtain ⟨t, u, e1, e2, e3⟩ := bind2 hf
    obtain ⟨v, e4, e5⟩ := bind1 e3
    cases e5
    refine ⟨γ, S0, S, t, E, e1, fun v1 H1 s1 r1 => ?_⟩
    obtain ⟨p2, q2, m2, E2⟩ := E.wait s1 r1
    refine ⟨γ, S0, _, u, E2, e2, fun v2 H2 s2 r2 => ⟨γ, S0, _, v, E2.same s2, e4, fun v3 H3 s3 r3 => ⟨v1, v2, v3, rfl, ?_⟩⟩⟩
    have s23 := s2.trans s3
    obtain ⟨p3, q3, m3, E3⟩ := E.seto' (i := i) (s1.trans s23) (r1.fwd s23)
    have e : p2 = p3 := by
      have := q2.symm.trans q3
      injection this
    subst e
    refine p _ _ _ ?_ m3
    rw [h]
    exact (E3.seta (Rp.mv (.same s3) _ _ r2)).seta r3
theorem sv_par_oa [Enc ρ] [Enc α] [Enc β] {i j : Nat} {x y : Str} {px py pt : Pos} {kt k2 : Nat} {pt2 : Pos} {fa : Γ → Option α} {fb : Γ → Option β} (set : Γ → α → β → Γ') (h : ∀ g t u, sl' (set g t u) = ((sl g).set i (some (.o, enc t))).set j (some (.a, enc u)))
    (hN : X.N.Nodup) (ha : PV X sl .f a fa) (hb : PV X sl .a b fb) (hij : i ≠ j := by decide) (hi : X.N[i]? = some x := by rfl) (hj : X.N[j]? = some y := by rfl) (hx : X.env.scope.names.lookup x = some .local := by rfl) (hy : X.env.scope.names.lookup y = some .local := by rfl) (hc : X.calm = true := by rfl)
    (h1 : starEach [a, b] X.env = (false, eval a X.env) :: starEach [b] X.env := by rfl) (h2 : starEach [b] X.env = (false, eval b X.env) :: starEach [] X.env := by rfl)
    (hw : swappedStores [.Tuple [.Name x px, .Name y py] kt pt] (.Tuple [a, b] k2 pt2) X.env = pure (some [x, y]) := by rfl)
    (hs : swapsWithSole [.Tuple [.Name x px, .Name y py] kt pt] (.Tuple [a, b] k2 pt2) pos.line X.env = pure false := by rfl) :
    SV (ρ := ρ) X sl sl' kr (.Assign [.Tuple [.Name x px, .Name y py] kt pt] (.Tuple [a, b] k2 pt2) pos) (fun g => (fa g).bind fun t => (fb g).bind fun u => some (.nx (set g t u))) :=
  PS.imp (ps_par hc hN hi hj hij hx hy (pa_cons ha (pa_cons hb pa_nil h2) h1) hw hs) fun D σ H ⟨γ, S0, S, o, E, hf, p⟩ => by
    obtain ⟨t, u, e1, e2, e3⟩ := bind2 hf
    cases e3
    refine ⟨γ, S0, S, t, E, e1, fun v H1 s1 r1 => ?_⟩
    obtain ⟨p2, q2, m2, E2⟩ := E.wait s1 r1
    refine ⟨γ, S0, _, u, E2, e2, fun w H2 s2 r2 => ⟨v, w, rfl, ?_⟩⟩
    obtain ⟨p3, q3, m3, E3⟩ := E.seto' (i := i) (s1.trans s2) (r1.fwd s2)
    have e : p2 = p3 := by
      have := q2.symm.trans q3
      injection this
    subst e
    refine p _ _ _ ?_ m3
    rw [h]
    exact E3.seta r2
end PL

/-! PL15: the place in a list of ints. -/
namespace PL
open PySem PySem.Spec L2
open Enc (enc)
variable {Γ : Type} {X : Cx} {sl : Γ → Sl} {e o : Expr} {apos cpos : Pos}
def fIxI (c : Int) : List Int → Nat → Option Nat
  | [], _ => none
  | d :: l, n => if d = c then some n else fIxI c l (n + 1)
def lIndex (x : List Int) (y : Int) : Option Int := (fIxI y x 0).map fun n => (n : Int)
theorem fIxI_spec {c : Int} : ∀ {l : List Int} {n k : Nat}, fIxI c l n = some k → ∃ i, k = n + i ∧ l[i]? = some c ∧ ∀ j, j < i → l[j]? ≠ some c
  | [], n, k, h => by cases h
  | d :: l, n, k, h => by
    unfold fIxI at h
    by_cases e : d = c
    · rw [if_pos e] at h; cases h
      exact ⟨0, rfl, by rw [e]; rfl, fun j hj => by omega⟩
    · rw [if_neg e] at h
      obtain ⟨i, h1, h2, h3⟩ := fIxI_spec h
      refine ⟨i + 1, by omega, by simpa using h2, fun j hj => ?_⟩
      cases j with
      | zero => intro z; exact e (by simpa using z)
      | succ j => have := h3 j (by omega); simpa using this
theorem pv_index {fo : Γ → Option (List Int)} {fe : Γ → Option Int} (ho : PV X sl .b o fo) (he : PV X sl .b e fe)
    (hbase : attributeBase o "index" X.env (eval o X.env) = eval o X.env := by rfl)
    (hfew : ((backTo cpos (starEach [e] X.env)).all (fun x => !x.1) && (backToKw cpos (keywordEach [] X.env)).all (fun x => x.1.isSome)
      && decide ([e].length + ([] : List Keyword).length + (if ([] : List Keyword).isEmpty then 0 else 1) < 30)) = true := by rfl)
    (hline : (apos.endLine == cpos.line) = true := by rfl) (hs1 : starEach [e] X.env = (false, eval e X.env) :: starEach [] X.env := by rfl) (hplain : (backTo cpos (starEach [] X.env)).any (·.1) = false := by rfl) :
    PV X sl .a (.Call (.Attribute o "index" apos) [e] [] cpos) (fun s => (fo s).bind fun x => (fe s).bind fun y => lIndex x y) :=
  PE.imp (pe_bm PySem.F.plainAttrs_list PySem.F.slot_list_index PySem.F.type_list_index mt_index ho (pa_cons he pa_nil hs1) hbase hfew hline hs1 hplain) fun σ H Q ⟨γ, S0, S, t, E, hf, q⟩ => by
    obtain ⟨u, w, h1, h2, h3⟩ := bind2 hf
    refine ⟨γ, S0, S, u, E, h1, fun x H1 s1 r1 => ?_⟩
    obtain ⟨a, xs, rfl, g1, g2⟩ := rb_l r1
    refine ⟨.inl ⟨rfl, xs, g1⟩, γ, S0, S, w, E.same s1, h2, fun y H2 s2 r2 => ?_⟩
    cases e5 : fIxI w u 0 with
    | none => unfold lIndex at h3; rw [e5] at h3; cases h3
    | some k =>
      unfold lIndex at h3
      rw [e5] at h3
      cases h3
      obtain ⟨i, e6, g3, g4⟩ := fIxI_spec e5
      rw [Nat.zero_add] at e6
      subst e6
      obtain rfl := rpa_int g2
      obtain rfl := rb_i r2
      refine ⟨a, _, .int w, k, .int w, rfl, rfl, s2.seq g1, rfl, ?_, by rw [List.getElem?_map, g3]; rfl, ?_, fun m z' hm hz => ?_, q _ H2 (s1.trans s2) rfl⟩
      · rw [List.all_eq_true]
        intro v hv
        obtain ⟨i, _, rfl⟩ := List.mem_map.mp hv
        rfl
      · simp [eqV]
      · rw [List.getElem?_map] at hz
        cases e7 : u[m]? with
        | none => rw [e7] at hz; cases hz
        | some i =>
          rw [e7] at hz
          cases hz
          have : i ≠ w := fun z => g4 m hm (by rw [e7, z])
          simp [eqV, this]
end PL

/-! PL16: x, y, z = (a, new, c), through a tuple. -/
namespace PL
open PySem PySem.Spec L2
open Enc (enc)
variable {Γ Γ' ρ τ α β γ' : Type} {X : Cx} {sl : Γ → Sl} {sl' : Γ' → Sl} {a b c : Expr} {pos : Pos} {kr : Kd}
theorem sv_tup3_aoa [Enc ρ] [Enc α] [Enc β] [Enc γ'] {i j l : Nat} {x y z : Str} {px py pz pt : Pos} {kt k2 : Nat} {pt2 : Pos} {fa : Γ → Option α} {fb : Γ → Option β} {fc : Γ → Option γ'} (set : Γ → α → β → γ' → Γ') (h : ∀ g t u v, sl' (set g t u v) = (((sl g).set i (some (.a, enc t))).set j (some (.o, enc u))).set l (some (.a, enc v)))
    (hN : X.N.Nodup) (ha : PV X sl .a a fa) (hb : PV X sl .f b fb) (hc' : PV X sl .a c fc) (hi : X.N[i]? = some x := by rfl) (hj : X.N[j]? = some y := by rfl) (hl : X.N[l]? = some z := by rfl)
    (hx : Loc X.env.scope x := by first | exact .inl rfl | exact .inr rfl) (hy : Loc X.env.scope y := by first | exact .inl rfl | exact .inr rfl) (hz : Loc X.env.scope z := by first | exact .inl rfl | exact .inr rfl)
    (fx : X.fn x = true ∨ X.env.scope.names.lookup x = some .local := by first | exact .inl rfl | exact .inr rfl) (fy : X.fn y = true ∨ X.env.scope.names.lookup y = some .local := by first | exact .inl rfl | exact .inr rfl) (fz : X.fn z = true ∨ X.env.scope.names.lookup z = some .local := by first | exact .inl rfl | exact .inr rfl) (hc : X.calm = true := by rfl)
    (h1 : starEach [a, b, c] X.env = (false, eval a X.env) :: starEach [b, c] X.env := by rfl) (h2 : starEach [b, c] X.env = (false, eval b X.env) :: starEach [c] X.env := by rfl) (h3 : starEach [c] X.env = (false, eval c X.env) :: starEach [] X.env := by rfl)
    (hs : swapsWithSole [.Tuple [.Name x px, .Name y py, .Name z pz] kt pt] (.Tuple [a, b, c] k2 pt2) pos.line X.env = pure false := by rfl)
    (hw : swappedStores [.Tuple [.Name x px, .Name y py, .Name z pz] kt pt] (.Tuple [a, b, c] k2 pt2) X.env = pure none := by rfl)
    (q1 : (assignEach [.Tuple [.Name x px, .Name y py, .Name z pz] kt pt] X.env).map (·.2) = [assign (.Tuple [.Name x px, .Name y py, .Name z pz] kt pt) X.env] := by rfl)
    (q2 : (assignEach [.Name x px, .Name y py, .Name z pz] X.env).length = 3 := by rfl) (q3 : (assignEach [.Name x px, .Name y py, .Name z pz] X.env).findIdx? (·.1) = none := by rfl)
    (q4 : (assignEach [.Name x px, .Name y py, .Name z pz] X.env).map (·.2) = assign (.Name x px) X.env :: (assignEach [.Name y py, .Name z pz] X.env).map (·.2) := by rfl)
    (q5 : (assignEach [.Name y py, .Name z pz] X.env).map (·.2) = assign (.Name y py) X.env :: (assignEach [.Name z pz] X.env).map (·.2) := by rfl)
    (q6 : (assignEach [.Name z pz] X.env).map (·.2) = assign (.Name z pz) X.env :: (assignEach [] X.env).map (·.2) := by rfl) :
    SV (ρ := ρ) X sl sl' kr (.Assign [.Tuple [.Name x px, .Name y py, .Name z pz] kt pt] (.Tuple [a, b, c] k2 pt2) pos) (fun g => (fa g).bind fun t => (fb g).bind fun u => (fc g).bind fun v => some (.nx (set g t u v))) :=
  PS.imp (ps_asg (pe_tup (pa_cons ha (pa_cons hb (pa_cons hc' pa_nil h3) h2) h1)) (pg_tup hc (pgs_cons (pg_name hN hi hx fx) (pgs_cons (pg_name hN hj hy fy) (pgs_cons (pg_name hN hl hz fz) pgs_nil q6) q5) q4) q2 q3) hs hw q1) fun D σ H ⟨γ, S0, S, o, E, hf, p⟩ => by
    obtain ⟨t, u, e1, e2, e3⟩ := bind2 hf
    obtain ⟨v, e4, e5⟩ := bind1 e3
    cases e5
    refine ⟨γ, S0, S, t, E, e1, fun v1 H1 s1 r1 => ⟨γ, S0, S, u, E.same s1, e2, fun v2 H2 s2 r2 => ?_⟩⟩
    have E1 := E.same s1
    obtain ⟨p2, g2, m2, E2⟩ := E1.wait s2 r2
    refine ⟨γ, S0, _, v, E2, e4, fun v3 H3 s3 r3 => ⟨by show 3 ≤ sizeLine; decide, fun q hq => ?_⟩⟩
    have s4 := same_new (o := .tup [v1, v2, v3]) hq
    have s34 := s3.trans s4
    have s24 := s2.trans s34
    obtain ⟨p3, g3, m3, E3⟩ := (E1.seta (i := i) r1).seto' (i := j) s24 (r2.fwd s34)
    have e : p2 = p3 := by
      have := g2.symm.trans g3
      injection this
    subst e
    refine ⟨q, [v1, v2, v3], rfl, .of upd_same, rfl, v1, _, rfl, v2, _, rfl, v3, _, rfl, rfl, ?_⟩
    refine p _ _ _ ?_ ((Mv.same s1).trans m3)
    rw [h]
    exact E3.seta (Rp.mv (.same s4) _ _ r3)
end PL

/-! PL17: tuple of a tuple, constants that are tuples, in of tuples. -/
namespace PL
open PySem PySem.Spec L2
open Enc (enc)
variable {Γ Γ' ρ τ α β σ' : Type} {X : Cx} {sl : Γ → Sl} {e a b c : Expr} {k : Kd} {pos p : Pos}
theorem pv_tupleT [Enc τ] [NoL τ] {fa : Γ → Option τ} (ds : τ → List PyData) (hd : ∀ t, enc t = .tuple (ds t)) (hg : Gl X "tuple") (hm : X.mg "tuple" = none) (ha : PV X sl .b a fa) (he : starEach [a] X.env = (false, eval a X.env) :: starEach [] X.env := by rfl) :
    PV X sl .a (.Call (.Name "tuple" p) [a] [] pos) (fun s => (fa s).bind fun x => some x) :=
  pv_c1 (fun h => pe_callTy call_tuple_of hg hm (by decide +kernel) (pa_cons h pa_nil he) (he := he)) (fun T H x u t Q hT r e q => by
    cases e
    have r2 : Rp X.K H T (enc u) x := Rb.rp r
    rw [hd u] at r
    obtain ⟨p, xs, rfl, h1, h2⟩ := rb_tup r
    exact ⟨p, xs, rfl, .inr ⟨h1, q _ H (Same.refl H) r2⟩⟩) ha
/-- a constant of the top that is a tuple of flat things -/
theorem pv_gtup [Enc τ] {x : Str} {ad : Addr} {xs : List V} (t : τ) (ds : List PyData) (hd : enc t = .tuple ds) (hr : ∀ H T, RpA X.K H T ds xs) (hg : Gl X x) (hm : X.mg x = some (.ref ad)) (hk : KTp X.K ad xs) (hb : (x == ("__debug__" : Str)) = false := by decide) : PV X sl .a (.Name x pos) (fun _ => some t) :=
  PE.imp (pe_glob hg hm (v := .ref ad) rfl hb) fun σ H Q ⟨g, S0, S, t', E, hf, q⟩ => by
    cases hf
    refine q _ H (Same.refl H) ?_
    show Rp X.K H _ (enc t) (.ref ad)
    rw [hd]
    exact ⟨ad, xs, rfl, .inr hk, hr H _⟩
class FlV (τ : Type) [Enc τ] [Sc τ] [DecidableEq τ] : Prop where
  fl : ∀ t : τ, flatV (Sc.val t) = true
  eq : ∀ s t : τ, eqV (Sc.val s) (Sc.val t) = decide (s = t)
instance : FlV Int := ⟨fun _ => rfl, fun s t => by show (s == t) = decide (s = t); exact Bool.beq_eq_decide_eq s t⟩
instance : FlV Tx := ⟨fun _ => rfl, fun s t => by
  show ((⟨s.cs.toArray⟩ : Str) == (⟨t.cs.toArray⟩ : Str)) = decide (s = t)
  rw [Bool.eq_iff_iff, beq_iff_eq, decide_eq_true_iff]
  constructor
  · intro e
    exact Sc.inj s t (congrArg V.str e)
  · intro e; rw [e]⟩
section
variable [Enc τ] [Sc τ] [DecidableEq τ] [FlV τ] [Enc σ']
theorem rpa_sc {K : PySem.W.Frag} {H : Hp} {T : Ad} : ∀ {t : List τ} {xs : List V}, RpA K H T (t.map enc) xs → xs = t.map Sc.val
  | [], xs, h => h
  | a :: t, xs, h => by
    obtain ⟨v, vs, rfl, h1, h2⟩ := h
    rw [List.map_cons, rpa_sc h2, Sc.rp (.inl h1)]
theorem inV_sc (x : τ) : ∀ t : List τ, inV (Sc.val x) (t.map Sc.val) = decide (x ∈ t)
  | [] => by simp [inV]
  | a :: t => by
    have := inV_sc x t
    unfold inV at this ⊢
    rw [List.map_cons, List.any_cons, this, FlV.eq]
    by_cases h : x = a
    · subst h; simp
    · simp [h, Ne.symm h]
theorem flat_sc (t : List τ) : (t.map Sc.val).all flatV = true := by
  rw [List.all_eq_true]
  intro v hv
  obtain ⟨x, _, rfl⟩ := List.mem_map.mp hv
  exact FlV.fl x
def c_inU (ds : σ' → List τ) (hd : ∀ t, enc t = .tuple ((ds t).map enc)) : Cmp X .In τ σ' (fun x y => some (decide (x ∈ ds y))) := ⟨_, op_in_seq, fun T H x y u w t Q hT r1 r2 e q => by
  cases e
  rw [hd w] at r2
  obtain ⟨p, xs, rfl, h1, h2⟩ := rb_tup r2
  rw [Sc.rp r1]
  rw [rpa_sc h2] at h1
  exact ⟨p, _, rfl, .inr h1, FlV.fl u, flat_sc _, q _ H (Same.refl H) (by rw [inV_sc]; rfl)⟩⟩
def c_ninU (ds : σ' → List τ) (hd : ∀ t, enc t = .tuple ((ds t).map enc)) : Cmp X .NotIn τ σ' (fun x y => some (!decide (x ∈ ds y))) := ⟨_, op_notIn_seq, fun T H x y u w t Q hT r1 r2 e q => by
  cases e
  rw [hd w] at r2
  obtain ⟨p, xs, rfl, h1, h2⟩ := rb_tup r2
  rw [Sc.rp r1]
  rw [rpa_sc h2] at h1
  exact ⟨p, _, rfl, .inr h1, FlV.fl u, flat_sc _, q _ H (Same.refl H) (by rw [inV_sc]; rfl)⟩⟩
end
def c_isB : Cmp X .Is Bool Bool (fun x y => some (decide (x = y))) := ⟨_, op_isBl, fun T H x y u w t Q hT r1 r2 e q => by
  cases e
  exact ⟨u, w, Sc.rp r1, Sc.rp r2, q _ H (Same.refl H) rfl⟩⟩
def c_isntB : Cmp X .IsNot Bool Bool (fun x y => some (!decide (x = y))) := ⟨_, op_notBl, fun T H x y u w t Q hT r1 r2 e q => by
  cases e
  exact ⟨u, w, Sc.rp r1, Sc.rp r2, q _ H (Same.refl H) rfl⟩⟩
end PL

/-! PL18: enumerate of a text and of a tuple; walks over tuples. -/
namespace PL
open PySem PySem.Spec L2 PyProof.Rows
open Enc (enc)
/-- the signs of a text, each in a new pair -/
def ItS (x : Str) : It :=
  ⟨fun i _ => i < x.cps.size, fun i H v H' => ∃ T c, v = .ref T ∧ H T = none ∧ H' = upd H T (.tup [.int (i : Nat), .str ⟨#[c]⟩]) ∧ x.cps[i]? = some c, fun i _ => x.cps.size ≤ i⟩
theorem turn_enumS {P : Program} {w : World} {K : PySem.W.Frag} {elts : List Expr} {kk : Nat} {tpos : Pos} (e it : Addr) (x : Str) (t : Tok) :
    Turn P w K (.Tuple elts kk tpos) (ItS x) [e, it] e (fun i h => (∃ old, IsEnum h e it ((i : Nat) : Int) old) ∧ h.IsStrIter it (strIterType x) x t i ∧ e ≠ it) where
  mem := by simp
  obj := fun i h st b hb => by
    obtain ⟨⟨old, he⟩, ⟨o, ho, hc, hd⟩, _⟩ := st
    have e' : b = e ∨ b = it := by simpa using hb
    rcases e' with z | z
    · rw [z]; exact ⟨_, he, fun v q => nomatch q⟩
    · rw [z]; exact ⟨o, ho, fun v q => by rw [hd] at q; cases q⟩
  keep := fun i h h' st k => by
    obtain ⟨⟨old, he⟩, ⟨o, ho, r⟩, hne⟩ := st
    exact ⟨⟨old, k e (by simp) _ he⟩, ⟨o, k it (by simp) o ho, r⟩, hne⟩
  item := by
    intro X hP hw hK hc i pins s σ H E I hf st hg
    subst hP hw hK
    obtain ⟨⟨old, he⟩, hit, hne⟩ := st
    have hel : e < s.heap.objs.size := Heap.lt_size he
    have hil : it < s.heap.objs.size := by obtain ⟨_, q, _⟩ := hit; exact Heap.lt_size q
    refine wpAny_pyNext_enum_itemD (Draws.text (A := X.A.in1) (I.ok.hd hc) it x t) he hit hg hne (by simp [hne]) fun u h' tk hu ho hit' hT hsz hk => ?_
    obtain ⟨c, t2, hc2, rfl⟩ := hu
    refine ⟨_, rfl, wpAny_letOwnedTupleGo_enum (s := { s with heap := h', toks := tk + 1 }) ho fun h'' he' sb => ?_⟩
    have hT2 : h''.get? s.heap.objs.size = some { cls := .type "tuple", data := .seq #[.int i tk, .str ⟨#[c]⟩ t2] } := (sb.2 _ (Nat.ne_of_gt hel)).trans hT
    have new : ObjOk X.prog X.w (upd H s.heap.objs.size (.tup [.int (i : Nat), .str ⟨#[c]⟩])) h'' s.heap.objs.size (.tup [.int (i : Nat), .str ⟨#[c]⟩]) :=
      ⟨by show 2 ≤ sizeLine; decide, [.int i tk, .str ⟨#[c]⟩ t2], .cons ⟨_, rfl⟩ (.cons ⟨_, rfl⟩ .nil), ⟨_, hT2, rfl, _, rfl⟩⟩
    have I1 : Inv X pins σ (upd H s.heap.objs.size (.tup [.int (i : Nat), .str ⟨#[c]⟩])) { s with heap := h'', toks := tk + 1 } :=
      I.turnedNew (ch := [e, it]) (fun b ob hb q => (sb.2 b (fun z => hb (by simp [z]))).trans (hk b ob (fun z => hb (by simp [z])) (fun z => hb (by simp [z])) q)) hf (Nat.le_refl _) new
    refine ⟨.ref s.heap.objs.size, _, I1, rfl, ⟨_, c, rfl, I.hok.fresh (Nat.le_refl _), rfl, hc2⟩, ⟨⟨.str ⟨#[c]⟩ t2, ?_⟩, ?_, hne⟩, fun b hb => ?_⟩
    · have e1 : ((i + 1 : Nat) : Int) = (i : Int) + 1 := by omega
      rw [e1]; exact he'
    · obtain ⟨o, ho2, r⟩ := hit'
      exact ⟨o, (sb.2 it (Ne.symm hne)).trans ho2, r⟩
    · have hb' : b < s.heap.objs.size := by
        have e' : b = e ∨ b = it := by simpa using hb
        rcases e' with z | z
        · rw [z]; exact hel
        · rw [z]; exact hil
      rw [upd_ne (Nat.ne_of_lt hb')]
      exact (hf b hb).1
  done := by
    intro X hP hw hK hc i pins s σ H E I hf st hg
    subst hP hw hK
    obtain ⟨⟨old, he⟩, hit, hne⟩ := st
    obtain ⟨f0, f1, f2, f3, f4, f5⟩ := hf it (by simp)
    have hx : x.cps[i]? = none := Array.getElem?_eq_none hg
    have D : Draws X.prog X.w X.A.in1 it [it] 0 (fun _ _ => True) (fun _ h => h.IsStrIter it (strIterType x) x t i) := {
      live := fun _ h st => let ⟨o, ho, _⟩ := st; ⟨o, ho⟩
      frame := fun _ h h' st k => let ⟨o, ho, r⟩ := st; ⟨o, k it (by simp) o ho, r⟩
      item := fun j s Q E hj => absurd hj (Nat.not_lt_zero _)
      done := fun s Q E st hE => by
        cases ha : x.cps.all (· < 128)
        · simp only [strIterType, ha, Bool.false_eq_true, if_false] at st
          exact wpAny_nextOf_wide_end (I.ok.hd hc) st hx hE
        · simp only [strIterType, ha, if_true] at st
          exact wpAny_nextOf_ascii_end (I.ok.hd hc) st hx hE }
    exact wpAny_pyNext_enum_endD D he hit fun h' eb => ⟨rfl, I.turned (t' := s.toks) (fun b o hb q => eb b o hb q) f0 f1 f3 f4 f5⟩
  self := fun A i s Q E st h => let ⟨⟨_, he⟩, _⟩ := st; wpAny_pyIter_enum he h
def iEnumS (ta : TA) : TI := fun σ H R => ta σ H fun vs H1 => ∃ x, vs = [.str x] ∧ R (ItS x) H1
theorem pi_enumS {X : Cx} {e : Expr} {ta : TA} {p pos tpos : Pos} {elts : List Expr} {kk : Nat} (hg : Gl X "enumerate") (hm : X.mg "enumerate" = none) (ha : PA X [e] ta) (hs : starEach [e] X.env = [(false, eval e X.env)] := by rfl) :
    PI X (.Tuple elts kk tpos) (.Call (.Name "enumerate" p) [e] [] pos) (iEnumS ta) := by
  refine ⟨fun pins s σ H R I h => ?_⟩
  refine Call_ (ld_blt I hg hm boot_enumerate (PyProof.Rows.callWith_type1 (thn (ha.run pos pins s σ H _ I h) fun us s1 ⟨vs, H1, I1, r1, q1⟩ => ?_) hs rfl))
  obtain ⟨x, ex, q⟩ := q1
  subst ex
  cases r1 with
  | cons r rr =>
    cases rr
    obtain ⟨t, rfl⟩ := r
    refine call_enumerate_str fun h' he hit hsz hk => wpAny_pyIter_enum he ?_
    have I2 : Inv X pins σ H1 { s1 with heap := h' } := I1.kept (t' := s1.toks) hk
    refine ⟨s1.heap.objs.size + 1, [s1.heap.objs.size + 1, s1.heap.objs.size], _, _, H1, rfl, I2, turn_enumS (s1.heap.objs.size + 1) s1.heap.objs.size x t, ⟨⟨.none, he⟩, hit, Nat.succ_ne_self _⟩, fun b hb => ?_, q⟩
    have e' : b = s1.heap.objs.size + 1 ∨ b = s1.heap.objs.size := by simpa using hb
    have hle : s1.heap.objs.size ≤ b := by
      rcases e' with z | z
      · rw [z]; exact Nat.le_add_right _ _
      · rw [z]; exact Nat.le_refl _
    exact I1.fpOk hle (I1.hok.fresh hle)
/-! a tuple -/
def ItT (K : PySem.W.Frag) (a : Addr) : It :=
  ⟨fun i H => ∃ (xs : List V) (x : V), SqT K H a xs ∧ xs[i]? = some x, fun i H v H' => ∃ T x, v = .ref T ∧ H T = none ∧ H' = upd H T (.tup [.int (i : Nat), x]) ∧ ∀ xs, SqT K H a xs → xs[i]? = some x, fun i H => ∃ xs : List V, SqT K H a xs ∧ xs.length ≤ i⟩
theorem turn_enumT {P : Program} {w : World} {K : PySem.W.Frag} {elts : List Expr} {kk : Nat} {tpos : Pos} (a e it : Addr) :
    Turn P w K (.Tuple elts kk tpos) (ItT K a) [e, it] e (fun i h => (∃ old, IsEnum h e it ((i : Nat) : Int) old) ∧ h.IsTupleIter it a i ∧ e ≠ it ∧ a ≠ it ∧ a ≠ e) where
  mem := by simp
  obj := fun i h st b hb => by
    obtain ⟨⟨old, he⟩, ⟨o, ho, hc, hd⟩, _⟩ := st
    have e' : b = e ∨ b = it := by simpa using hb
    rcases e' with z | z
    · rw [z]; exact ⟨_, he, fun v q => nomatch q⟩
    · rw [z]; exact ⟨o, ho, fun v q => by rw [hd] at q; cases q⟩
  keep := fun i h h' st k => let ⟨⟨old, he⟩, hi, hne⟩ := st; ⟨⟨old, k e (by simp) _ he⟩, hi.at fun o q => k it (by simp) o q, hne⟩
  item := by
    intro X hP hw hK hc i pins s σ H E I hf st hg
    subst hP hw hK
    obtain ⟨⟨old, he⟩, hit, hne, hai, hae⟩ := st
    obtain ⟨xs, x, hq, hx⟩ := hg
    obtain ⟨its, rv, p, hz⟩ := I.tuple hq
    obtain ⟨u, hu, ru⟩ := rv.get hx
    have hel : e < s.heap.objs.size := Heap.lt_size he
    have hil : it < s.heap.objs.size := by obtain ⟨_, q, _⟩ := hit; exact Heap.lt_size q
    have hlt : i < its.toArray.size := by
      have := (List.getElem?_eq_some_iff.mp hu).1
      simpa using this
    refine wpAny_pyNext_enum_itemD (Draws.tuple (A := X.A.in1) (I.ok.hd hc) it a hai its.toArray) he ⟨hit, p⟩ hlt hne (by simp [hne, Ne.symm hae]) fun u2 h' tk hu2 ho hit' hT hsz hk => ?_
    have e2 : u2 = u := by
      have : its[i]? = some u2 := by simpa using hu2
      rw [hu] at this
      exact (Option.some.inj this).symm
    subst e2
    refine ⟨_, rfl, wpAny_letOwnedTupleGo_enum (s := { s with heap := h', toks := tk + 1 }) ho fun h'' he' sb => ?_⟩
    have hT2 : h''.get? s.heap.objs.size = some { cls := .type "tuple", data := .seq #[.int i tk, u2] } := (sb.2 _ (Nat.ne_of_gt hel)).trans hT
    have new : ObjOk X.prog X.w (upd H s.heap.objs.size (.tup [.int (i : Nat), x])) h'' s.heap.objs.size (.tup [.int (i : Nat), x]) :=
      ⟨by show 2 ≤ sizeLine; decide, [.int i tk, u2], .cons ⟨_, rfl⟩ (.cons ru .nil), ⟨_, hT2, rfl, _, rfl⟩⟩
    have I1 : Inv X pins σ (upd H s.heap.objs.size (.tup [.int (i : Nat), x])) { s with heap := h'', toks := tk + 1 } :=
      I.turnedNew (ch := [e, it]) (fun b ob hb q => (sb.2 b (fun z => hb (by simp [z]))).trans (hk b ob (fun z => hb (by simp [z])) (fun z => hb (by simp [z])) q)) hf (Nat.le_refl _) new
    refine ⟨.ref s.heap.objs.size, _, I1, rfl, ⟨_, x, rfl, I.hok.fresh (Nat.le_refl _), rfl, fun ys hy => by rw [I.tuple_inj hy hq]; exact hx⟩, ⟨⟨u2, ?_⟩, hit'.1.at fun o q => (sb.2 it (Ne.symm hne)).trans q, hne, hai, hae⟩, fun b hb => ?_⟩
    · have e1 : ((i + 1 : Nat) : Int) = (i : Int) + 1 := by omega
      rw [e1]; exact he'
    · have hb' : b < s.heap.objs.size := by
        have e' : b = e ∨ b = it := by simpa using hb
        rcases e' with z | z
        · rw [z]; exact hel
        · rw [z]; exact hil
      rw [upd_ne (Nat.ne_of_lt hb')]
      exact (hf b hb).1
  done := by
    intro X hP hw hK hc i pins s σ H E I hf st hg
    subst hP hw hK
    obtain ⟨⟨old, he⟩, hit, hne, hai, hae⟩ := st
    obtain ⟨xs, hq, hx⟩ := hg
    obtain ⟨its, rv, p, hz⟩ := I.tuple hq
    obtain ⟨f0, f1, f2, f3, f4, f5⟩ := hf it (by simp)
    have hl := rv.length
    have D : Draws X.prog X.w X.A.in1 it [it, a] 0 (fun _ _ => True) (fun _ h => h.IsTupleIter it a i ∧ h.IsTuple a its.toArray) := {
      live := fun _ h st => let ⟨o, ho, _⟩ := st.1; ⟨o, ho⟩
      frame := fun _ h h' st k => ⟨st.1.at fun o q => k it (by simp) o q, st.2.at fun o q => k a (by simp) o q⟩
      item := fun j s Q E hj => absurd hj (Nat.not_lt_zero _)
      done := fun s Q E st hE => wpAny_nextOf_tuple_end (I.ok.hd hc) st.1 st.2 (by simp; omega) hE }
    exact wpAny_pyNext_enum_endD D he ⟨hit, p⟩ fun h' eb => ⟨rfl, I.turned (t' := s.toks) (fun b o hb q => eb b o hb q) f0 f1 f3 f4 f5⟩
  self := fun A i s Q E st h => let ⟨⟨_, he⟩, _⟩ := st; wpAny_pyIter_enum he h
theorem meets_enumerate_newT (l : Addr) (items : Array Value) (n : Nat) (dct : Option Addr) (sl : Array (Option Value)) :
    Meets (Builtin.«enumerate.__new__» ⟨[.type "enumerate", .ref l], []⟩) (fun _ R s => s.heap.get? l = some { cls := .type "tuple", dict := dct, data := .seq items n, slots := sl } ∧
      R (.ok (.ret (.ref (s.heap.push { cls := .type "tuple_iterator", data := .fields #[.ref l, .int 0 0] }).objs.size)))
        { s with heap := (s.heap.push { cls := .type "tuple_iterator", data := .fields #[.ref l, .int 0 0] }).push { cls := .type "enumerate", data := .fields #[.none, .bool false, .ref s.heap.objs.size, rawInt 0, .none, .none] } }) :=
  .of_wp fun prog w A R s h => by
    obtain ⟨hp, g, d, tk, os⟩ := s; obtain ⟨hl, h⟩ := h
    have hsub := sub_enumerate
    have hL : Heap.IsTuple (Shared.heap ⟨hp, g, d, tk, os⟩) l items := ⟨_, hl, rfl, n, rfl⟩
    wp_walk using AutoSeq1.wpAny_loadPart' hl
    refine wpAny_stack_any fun st => wpAny_pure ?_
    split
    · rename_i c _ _ _ _ _
      cases (c == Value.type "enumerate")
      · wp_walk using AutoSeq1.wpAny_loadPart' hl, wpAny_pyIter_tuple hL
        exact ⟨_, rfl, h⟩
      · wp_walk using AutoSeq1.wpAny_loadPart' hl, wpAny_pyIter_tuple hL
        exact ⟨_, rfl, h⟩
    · wp_walk using AutoSeq1.wpAny_loadPart' hl, wpAny_pyIter_tuple hL
      exact ⟨_, rfl, h⟩
theorem call_enumerate_tuple {prog : Program} {w : World} {A : Around} {E : Value → Shared → Prop} {s : Shared} {l : Addr} {items : Array Value} {Q : Value → Shared → Prop} (hL : s.heap.IsTuple l items)
    (h : ∀ h', IsEnum h' (s.heap.objs.size + 1) s.heap.objs.size 0 .none → h'.IsTupleIter s.heap.objs.size l 0 → h'.objs.size = s.heap.objs.size + 2 →
      (∀ b o, s.heap.get? b = some o → h'.get? b = some o) → Q (.ref (s.heap.objs.size + 1)) { s with heap := h' }) :
    wpAny (model prog w) A (call (.type "enumerate") [.ref l]) Q E s := by
  obtain ⟨⟨c, dct, dt, sl⟩, hl, hc, n, hd⟩ := hL
  replace hc : c = .type "tuple" := hc
  replace hd : dt = .seq items n := hd
  subst hc hd
  refine callType_new F.called_enumerate (by decide) (F.typeCall_enumerate_1 _) (F.newCall_enumerate_1 _) (fun obj => F.args_object_init_2 obj _) F.entry_enumerate_new
    (meets_enumerate_newT l items n dct sl) ⟨hl, ?_⟩
  have hz : (s.heap.push { cls := .type "tuple_iterator", data := .fields #[.ref l, .int 0 0] }).objs.size = s.heap.objs.size + 1 := Heap.size_push ..
  show _ ∧ _
  rw [hz]
  have he : IsEnum ((s.heap.push { cls := .type "tuple_iterator", data := .fields #[.ref l, .int 0 0] }).push
      { cls := .type "enumerate", data := .fields #[.none, .bool false, .ref s.heap.objs.size, rawInt 0, .none, .none] }) (s.heap.objs.size + 1) s.heap.objs.size 0 .none := by
    have := Heap.get?_push_size (s.heap.push { cls := .type "tuple_iterator", data := .fields #[.ref l, .int 0 0] })
      (o := { cls := .type "enumerate", data := .fields #[.none, .bool false, .ref s.heap.objs.size, rawInt 0, .none, .none] }) rfl
    rw [hz] at this; exact this
  refine ⟨⟨_, he, rfl⟩, h _ he ⟨_, Heap.get?_push_of_some _ (Heap.get?_push_size _ rfl), rfl, rfl⟩ (by rw [Heap.size_push, hz]) fun b o x => Heap.get?_push_of_some _ (Heap.get?_push_of_some _ x)⟩
def iEnumT (K : PySem.W.Frag) (ta : TA) : TI := fun σ H R => ta σ H fun vs H1 => ∃ a xs, vs = [.ref a] ∧ SqT K H1 a xs ∧ R (ItT K a) H1
theorem pi_enumT {X : Cx} {e : Expr} {ta : TA} {p pos tpos : Pos} {elts : List Expr} {kk : Nat} (hg : Gl X "enumerate") (hm : X.mg "enumerate" = none) (ha : PA X [e] ta) (hs : starEach [e] X.env = [(false, eval e X.env)] := by rfl) :
    PI X (.Tuple elts kk tpos) (.Call (.Name "enumerate" p) [e] [] pos) (iEnumT X.K ta) := by
  refine ⟨fun pins s σ H R I h => ?_⟩
  refine Call_ (ld_blt I hg hm boot_enumerate (PyProof.Rows.callWith_type1 (thn (ha.run pos pins s σ H _ I h) fun us s1 ⟨vs, H1, I1, r1, q1⟩ => ?_) hs rfl))
  obtain ⟨a, xs, ex, hq, q⟩ := q1
  subst ex
  cases r1 with
  | cons r rr =>
    cases rr
    cases r
    obtain ⟨its, rv, p', hz⟩ := I1.tuple hq
    have hla : a < s1.heap.objs.size := by obtain ⟨o, q, _⟩ := p'; exact Heap.lt_size q
    refine call_enumerate_tuple p' fun h' he hit hsz hk => wpAny_pyIter_enum he ?_
    have I2 : Inv X pins σ H1 { s1 with heap := h' } := I1.kept (t' := s1.toks) hk
    refine ⟨s1.heap.objs.size + 1, [s1.heap.objs.size + 1, s1.heap.objs.size], _, _, H1, rfl, I2, turn_enumT a (s1.heap.objs.size + 1) s1.heap.objs.size, ⟨⟨.none, he⟩, hit, Nat.succ_ne_self _, Nat.ne_of_lt hla, Nat.ne_of_lt (Nat.lt_succ_of_lt hla)⟩, fun b hb => ?_, q⟩
    have e' : b = s1.heap.objs.size + 1 ∨ b = s1.heap.objs.size := by simpa using hb
    have hle : s1.heap.objs.size ≤ b := by
      rcases e' with z | z
      · rw [z]; exact Nat.le_add_right _ _
      · rw [z]; exact Nat.le_refl _
    exact I1.fpOk hle (I1.hok.fresh hle)
variable {Γ Γ' ρ τ α β σ' ι : Type} {X : Cx} {sl : Γ → Sl} {e a b c : Expr} {k : Kd} {pos p : Pos}
theorem piv_enumS {elts : List Expr} {kk : Nat} {p tpos : Pos} {f : Γ → Option Tx} (hg : Gl X "enumerate") (hm : X.mg "enumerate" = none) (ha : PV X sl .b a f) (hs : starEach [a] X.env = [(false, eval a X.env)] := by rfl) :
    IV X sl .a (.Tuple elts kk tpos) (.Call (.Name "enumerate" p) [a] [] pos) (fun s => (f s).bind fun x => some (x.cs.zipIdx.map fun q => T2.mk (q.2 : Int) (⟨[q.1]⟩ : Tx))) :=
  PI.imp (pi_enumS hg hm (pa_cons ha pa_nil hs) hs) fun σ H R ⟨g, S0, S, xs, E, hf, q⟩ => by
    obtain ⟨t, e1, e2⟩ := bind1 hf
    cases e2
    refine ⟨g, S0, S, t, E, e1, fun v H1 s1 r1 => ?_⟩
    refine ⟨_, by rw [rb_t r1], q _ H1 s1 fun S2 H2 m s d => ?_⟩
    refine ⟨fun i hi => by show Array.size _ ≤ i; simpa using hi, fun i x hx => ?_⟩
    rw [List.getElem?_map, List.getElem?_zipIdx] at hx
    cases hc : t.cs[i]? with
    | none => rw [hc] at hx; cases hx
    | some c =>
      rw [hc] at hx
      cases hx
      obtain ⟨hl, _⟩ := List.getElem?_eq_some_iff.mp hc
      refine ⟨by show i < Array.size _; simpa using hl, fun v H3 hy => ?_⟩
      obtain ⟨T, c', rfl, hT, rfl, hc'⟩ := hy
      have e3 : t.cs[i]? = some c' := by simpa using hc'
      rw [hc] at e3
      cases e3
      refine ⟨same_new hT, rp_newT d hT ⟨_, _, rfl, ?_, .one rfl⟩⟩
      simp
      rfl
theorem piv_enumT [Enc τ] [Enc ι] {elts : List Expr} {kk : Nat} {p tpos : Pos} {f : Γ → Option τ} (ds : τ → List ι) (hd : ∀ t, enc t = .tuple ((ds t).map enc)) [NoL τ] (hg : Gl X "enumerate") (hm : X.mg "enumerate" = none) (ha : PV X sl .b a f) (hs : starEach [a] X.env = [(false, eval a X.env)] := by rfl) :
    IV X sl .a (.Tuple elts kk tpos) (.Call (.Name "enumerate" p) [a] [] pos) (fun s => (f s).bind fun x => some ((ds x).zipIdx.map fun q => T2.mk (q.2 : Int) q.1)) :=
  PI.imp (pi_enumT hg hm (pa_cons ha pa_nil hs) hs) fun σ H R ⟨g, S0, S, xs, E, hf, q⟩ => by
    obtain ⟨l, e1, e2⟩ := bind1 hf
    cases e2
    refine ⟨g, S0, S, l, E, e1, fun v H1 s1 r1 => ?_⟩
    have r1' : Rp X.K H1 (un S S0) (enc l) v := Rb.rp r1
    rw [hd] at r1'
    obtain ⟨a, vs, rfl, h1, h2⟩ := r1'
    refine ⟨a, vs, rfl, h1.sq, q _ H1 s1 fun S2 H2 m s d => ?_⟩
    have h3 := (h1.mv m.un).sq
    have r2 : RpA X.K H2 (un S2 S0) ((ds l).map enc) vs := RpA.mv m.un _ _ h2
    refine ⟨fun i hi => ⟨vs, h3, by rw [map_len r2]; simpa using hi⟩, fun i x hx => ?_⟩
    obtain ⟨y, hy, rfl⟩ : ∃ y, (ds l)[i]? = some y ∧ x = T2.mk (i : Int) y := by
      rw [List.getElem?_map, List.getElem?_zipIdx] at hx
      cases h : (ds l)[i]? with
      | none => rw [h] at hx; cases hx
      | some y => rw [h] at hx; cases hx; exact ⟨y, rfl, by simp⟩
    obtain ⟨v, g1, g2⟩ := map_get r2 hy
    refine ⟨⟨vs, v, h3, g1⟩, fun w H3 hy => ?_⟩
    obtain ⟨T, z, rfl, hT, rfl, hz⟩ := hy
    have e3 := hz vs h3
    rw [g1] at e3
    cases e3
    exact ⟨same_new hT, rp_newT d hT ⟨_, _, rfl, rfl, .one g2⟩⟩
theorem piv_tup [Enc τ] [Enc ι] {tg : Expr} {f : Γ → Option τ} (ds : τ → List ι) (hd : ∀ t, enc t = .tuple ((ds t).map enc)) [NoL τ] (h : PV X sl .b e f) : IV X sl .a tg e (fun s => (f s).bind fun x => some (ds x)) := PI.imp (pi_tup h) fun σ H R ⟨g, S0, S, xs, E, hf, q⟩ => by
  obtain ⟨l, e1, e2⟩ := bind1 hf
  cases e2
  refine ⟨g, S0, S, l, E, e1, fun v H1 s1 r1 => ?_⟩
  have r1' : Rp X.K H1 (un S S0) (enc l) v := Rb.rp r1
  rw [hd] at r1'
  obtain ⟨a, vs, rfl, h1, h2⟩ := r1'
  refine ⟨a, rfl, ⟨vs, h1.sq⟩, q _ H1 s1 fun S2 H2 m s d => ?_⟩
  have h3 := (h1.mv m.un).sq
  have r2 : RpA X.K H2 (un S2 S0) ((ds l).map enc) vs := RpA.mv m.un _ _ h2
  refine ⟨fun i hi => ⟨vs, h3, by rw [map_len r2]; exact hi⟩, fun i x hx => ?_⟩
  obtain ⟨v, g1, g2⟩ := map_get r2 hx
  refine ⟨⟨vs, v, h3, g1⟩, fun w H3 hy => ?_⟩
  obtain ⟨rfl, hz⟩ := hy
  have e3 := hz vs h3
  rw [g1] at e3
  cases e3
  exact ⟨Same.refl _, g2⟩
end PL

/-! PL19: lists taken apart, reversed texts, [x] * n, divmod, sorted pairs. -/
namespace PL
open PySem PySem.Spec L2 PyProof.Rows
open Enc (enc)
/-! ### a, b = xs -/
structure LU2 (τ : Type) where
  mk ::
  a : τ
  b : τ
structure LU3 (τ : Type) where
  mk ::
  a : τ
  b : τ
  c : τ
instance {τ : Type} [Enc τ] : Enc (LU2 τ) := ⟨fun t => .list [enc t.a, enc t.b]⟩
instance {τ : Type} [Enc τ] : Enc (LU3 τ) := ⟨fun t => .list [enc t.a, enc t.b, enc t.c]⟩
def toLU2 {τ : Type} : List τ → Option (LU2 τ)
  | [a, b] => some ⟨a, b⟩
  | _ => none
def toLU3 {τ : Type} : List τ → Option (LU3 τ)
  | [a, b, c] => some ⟨a, b, c⟩
  | _ => none
section
variable {Γ Γ' Γb ρ τ α β σ' ι : Type} {X : Cx} {sl : Γ → Sl} {slb : Γb → Sl} {e a b c : Expr} {k : Kd} {pos p : Pos}
theorem pv_lu2 [Enc τ] {f : Γ → Option (List τ)} (h : PV X sl k e f) : PV X sl k e (fun s => (f s).bind fun x => toLU2 x) := PE.imp h fun σ H Q ⟨g, S0, S, t, E, hf, q⟩ => by
  obtain ⟨u, h1, hf⟩ := bind1 hf
  refine ⟨g, S0, S, u, E, h1, fun v H' s r => q v H' s ?_⟩
  have : enc u = enc t := by
    unfold toLU2 at hf
    split at hf
    · cases hf; rfl
    · cases hf
  rw [← this]
  exact r
theorem pv_lu3 [Enc τ] {f : Γ → Option (List τ)} (h : PV X sl k e f) : PV X sl k e (fun s => (f s).bind fun x => toLU3 x) := PE.imp h fun σ H Q ⟨g, S0, S, t, E, hf, q⟩ => by
  obtain ⟨u, h1, hf⟩ := bind1 hf
  refine ⟨g, S0, S, u, E, h1, fun v H' s r => q v H' s ?_⟩
  have : enc u = enc t := by
    unfold toLU3 at hf
    split at hf
    · cases hf; rfl
    · cases hf
  rw [← this]
  exact r
theorem gv_lst [Enc ι] {es : List Expr} {kk n : Nat} {set : Γ → ι → Γb} {js : List Nat} (ds : ι → List PyData) (hd : ∀ x, enc x = .list (ds x)) (hl : ∀ x, (ds x).length = n) (h : PGs X es (tGs X.K sl slb ds set js)) (hc : X.calm = true := by rfl)
    (hn : (assignEach es X.env).length = n := by rfl) (hst : (assignEach es X.env).findIdx? (·.1) = none := by rfl) : GV X sl slb (.Tuple es kk pos) set js := PG.imp (pg_lst hc h hn hst) fun v σ H Q ⟨g, S0, S, x, E, r, q⟩ => by
  rw [hd] at r
  obtain ⟨a, xs, rfl, h1, h2⟩ := r
  exact ⟨a, xs, rfl, h1.sq, by rw [h2.length, hl], g, S0, S, x, E, h2, q⟩
end
/-! ### t[::-1] of a text -/
def tRevT (te : TE) : TE := fun σ H Q => te σ H fun x H1 => ∃ z : Str, x = .str z ∧ z.length ≤ sizeLine ∧ Q (.str ⟨z.cps.toList.reverse.toArray⟩) H1
theorem rev_pick (l : List Nat) : ((List.range l.length).map fun k => l.length - 1 - k).filterMap (l.toArray[·]?) = l.reverse := by
  have h := PyProof.Rows.filterMap_get l.toArray ((List.range l.length).map fun k => l.length - 1 - k) (by
    intro i hi
    obtain ⟨k, hk, rfl⟩ := List.mem_map.mp hi
    have := List.mem_range.mp hk
    simp
    omega)
  rw [h, List.map_map]
  apply List.ext_getElem
  · simp
  · intro i h1 h2
    simp only [List.length_map, List.length_range] at h1
    have h3 : l.length - 1 - i < l.length := by omega
    simp [h3]
theorem pe_revT {X : Cx} {e : Expr} {te : TE} {k : Nat} {p1 p2 p3 pos : Pos} (he : PE X e te) : PE X (.Subscript e (.Slice none none (some (.UnaryOp .USub (.Constant (.int 1) k p1) p2)) p3) pos) (tRevT te) := by
  refine ⟨fun pins s σ H Q I h => ?_⟩
  refine Subscript_ (thn (he.run pins s σ H _ I h) fun v s1 ⟨x, H1, I1, r1, q1⟩ => ?_)
  obtain ⟨z, ex, hz, q⟩ := q1
  subst ex
  obtain ⟨t, rfl⟩ := r1
  have hst : PO X (some (.UnaryOp .USub (.Constant (.int 1) k p1) p2)) (tPart (tUn (rU fun i => .int (-i)) (tC (.int 1)))) := po_some (pe_un un_neg pe_int)
  refine wpAny_Slice (thn (po_none.run pins s1 σ H1 (fun o H2 => o = none ∧ H2 = H1) I1 ⟨rfl, rfl⟩) fun vl s2 ⟨l, H2, I2, pl, el, e2⟩ => ?_)
  subst el e2
  refine thn (po_none.run pins s2 σ H2 (fun o H3 => o = none ∧ H3 = H2) I2 ⟨rfl, rfl⟩) fun vu s3 ⟨u, H3, I3, pu, eu, e3⟩ => ?_
  subst eu e3
  refine thn (hst.run pins s3 σ H3 (fun o H4 => o = some (-1) ∧ H4 = H3) I3 ⟨1, rfl, -1, rfl, rfl, rfl⟩) fun vs s4 ⟨o, H4, I4, ps, eo, e4⟩ => ?_
  subst eo e4
  have I5 : Inv X pins σ H4 { s4 with heap := s4.heap.push { cls := .type "slice", data := .fields #[vl, vu, vs] } } := I4.kept (t' := s4.toks) fun b ob q => Heap.get?_push_of_some _ q
  show wpAny (model X.prog X.w) X.A (subscriptTail e (.Slice none none (some (.UnaryOp .USub (.Constant (.int 1) k p1) p2)) p3) (.str z t) (.ref s4.heap.objs.size)) (EP X pins σ Q) X.xe { s4 with heap := s4.heap.push { cls := .type "slice", data := .fields #[vl, vu, vs] } }
  obtain ⟨l, rfl, hl⟩ := IsPart.raw pl
  obtain ⟨u, rfl, hu⟩ := IsPart.raw pu
  obtain ⟨st, rfl, hs⟩ := IsPart.raw ps
  refine tail_any (ops := [.str z t, .ref s4.heap.objs.size]) (typeIs_str _ _ _) (F.slot_str_getitem.lookup) ?_ (by with_unfolding_all rfl)
  refine wpAny_getItem_str_slice (l := l) (u := u) (st := st) ⟨_, Heap.get?_push_size _ rfl, rfl, rfl⟩ (by rw [hs]; rfl) ?_
  have hpick : ((Builtin.Str.strSliceIndices none none (-1) z.length).filterMap (z.cps[·]?)) = z.cps.toList.reverse := by
    rw [PyProof.Rows.picked_rev]
    have := rev_pick z.cps.toList
    have hzl : z.length = z.cps.size := rfl
    rw [hzl]
    simpa using this
  have e1 : sliceMade z t l u st = Made.str ⟨z.cps.toList.reverse.toArray⟩ := by
    rw [← hpick]
    unfold sliceMade slicePicked
    rw [hl, hu, hs]
    rfl
  rw [e1]
  exact ⟨by show (List.toArray _).size ≤ sizeLine; have hz2 : z.cps.size ≤ sizeLine := hz; simpa using hz2, .str _, H4, I5.tok _, ⟨_, rfl⟩, q⟩
section
variable {Γ Γ' Γb ρ τ α β σ' ι : Type} {X : Cx} {sl : Γ → Sl} {slb : Γb → Sl} {e a b c : Expr} {k : Kd} {pos p : Pos}
def tRev (x : Tx) : Option Tx := if x.cs.length ≤ sizeLine then some ⟨x.cs.reverse⟩ else none
theorem pv_revS {fa : Γ → Option Tx} {k0 : Nat} {p1 p2 p3 : Pos} (ha : PV X sl .b a fa) : PV X sl .a (.Subscript a (.Slice none none (some (.UnaryOp .USub (.Constant (.int 1) k0 p1) p2)) p3) pos) (fun s => (fa s).bind fun x => tRev x) :=
  PE.imp (pe_revT ha) fun σ H Q ⟨γ, S0, S, t, E, hf, q⟩ => by
    obtain ⟨u, h1, h2⟩ := bind1 hf
    obtain ⟨hz, rfl⟩ := if_some h2
    refine ⟨γ, S0, S, u, E, h1, fun v H1 s1 r1 => ⟨_, rb_t r1, by show Array.size _ ≤ _; simpa using hz, q _ H1 s1 ?_⟩⟩
    show V.str _ = V.str _
    simp
/-! ### xs * n -/
def lRep (x : List τ) (n : Int) : Option (List τ) := if -(2 ^ 62) ≤ n ∧ n < 2 ^ 62 ∧ x.length * n.toNat ≤ sizeLine then some (List.replicate n.toNat x).flatten else none
theorem rpa_rep {K : PySem.W.Frag} {H : Hp} {T : Ad} {ds : List PyData} {xs : List V} (h : RpA K H T ds xs) : ∀ n, RpA K H T (List.replicate n ds).flatten (List.replicate n xs).flatten
  | 0 => rfl
  | n + 1 => by
    rw [List.replicate_succ, List.replicate_succ, List.flatten_cons, List.flatten_cons]
    exact h.append (rpa_rep h n)
theorem pv_rep [Enc τ] {fa : Γ → Option (List τ)} {fb : Γ → Option Int} (ha : PV X sl .f a fa) (hb : PV X sl .b b fb) : PV X sl .f (.BinOp a .Mult b pos) (fun s => (fa s).bind fun x => (fb s).bind fun y => lRep x y) :=
  PE.imp (pe_op op_rep ha hb) fun σ H Q ⟨γ, S0, S, t, E, hf, q⟩ => by
    obtain ⟨u, w, h1, h2, h3⟩ := bind2 hf
    obtain ⟨⟨hz1, hz2, hz3⟩, rfl⟩ := if_some h3
    refine ⟨γ, S0, S, u, E, h1, fun x H1 s1 r1 => ⟨γ, S0, S, w, E.same s1, h2, fun y H2 s2 r2 => ?_⟩⟩
    obtain ⟨l, rfl, hl, ⟨ds, xs, ed, h4, h5⟩ | ⟨kv, es, ed, _⟩⟩ := r1
    · have ed : ds = u.map enc := by cases ed; rfl
      subst ed
      have hlen := map_len h5
      refine ⟨l, w, xs, rfl, rb_i r2, s2 _ _ h4, by omega, by omega, by rw [hlen]; exact hz3, fun p hp => ?_⟩
      have s12 := s1.trans s2
      refine q _ _ (s12.trans (same_new hp)) ⟨p, rfl, ?_, .inl ⟨_, _, rfl, upd_same, ?_⟩⟩
      · cases e : H p with
        | none => rfl
        | some o => rw [s12 p o e] at hp; cases hp
      · have h6 : RpA X.K H2 (wi (un S S0) l) (u.map enc) xs := RpA.mv (.same s2) _ _ h5
        have h7 := rpa_rep h6 w.toNat
        rw [show (List.replicate w.toNat (u.map enc)).flatten = (List.replicate w.toNat u).flatten.map enc by
          rw [List.map_flatten, List.map_replicate]] at h7
        have h8 : RpA X.K H2 (un S S0) ((List.replicate w.toNat u).flatten.map enc) (List.replicate w.toNat xs).flatten := h7.mv (.less fun a z => .inl z)
        refine h8.mv fun a o e n => ?_
        have ne := ne_of_none e hp
        exact ⟨by rw [upd_ne ne]; exact e, fun z => z.elim n ne⟩
    · cases ed
/-! ### divmod -/
def iDivmod (x y : Int) : Option (T2 Int Int) := if 0 < y ∧ y < 1073741824 then some ⟨x / y, x % y⟩ else none
theorem pv_divmod {fa fb : Γ → Option Int} (hg : Gl X "divmod") (hm : X.mg "divmod" = none) (ha : PV X sl .b a fa) (hb : PV X sl .b b fb) (he : starEach [a, b] X.env = (false, eval a X.env) :: starEach [b] X.env := by rfl) (he2 : starEach [b] X.env = (false, eval b X.env) :: starEach [] X.env := by rfl) (hpl : (backTo pos (starEach [b] X.env)).any (·.1) = false := by rfl) :
    PV X sl .a (.Call (.Name "divmod" p) [a, b] [] pos) (fun s => (fa s).bind fun x => (fb s).bind fun y => iDivmod x y) :=
  pv_c2 (fun h1 h2 => pe_callB call_divmod hg hm (by decide +kernel) (pa_cons h1 (pa_cons h2 pa_nil he2) he) (he := he) (hpl := hpl)) (fun T H x y u w t Q hT r1 r2 e q => by
    obtain ⟨hz, rfl⟩ := if_some e
    refine ⟨u, w, by rw [rb_i r1, rb_i r2], hz, fun p hp => ?_⟩
    exact q _ _ (same_new hp) (rp_newT hT hp ⟨_, _, rfl, rfl, .one rfl⟩)) ha hb
/-! ### sorted pairs of numbers -/
def leP (p q : T2 Int Int) : Bool := decide (p.a < q.a) || (decide (p.a = q.a) && decide (p.b ≤ q.b))
def okP (p : T2 Int Int) : Bool := decide (0 ≤ p.a) && decide (p.a < 1000000000000000000) && decide (0 ≤ p.b) && decide (p.b < 1000000000000000000)
def srtP (x : List (T2 Int Int)) : Option (List (T2 Int Int)) := if x.length < 64 ∧ x.all okP = true then some (x.mergeSort leP) else none
theorem rpa_perm {K : PySem.W.Frag} {H : Hp} {T : Ad} {xs ys : List V} (p : ys.Perm xs) : ∀ {ds : List PyData}, RpA K H T ds xs → ∃ es, es.Perm ds ∧ RpA K H T es ys := by
  induction p with
  | nil => intro ds h; exact ⟨ds, .refl _, h⟩
  | cons x _ ih =>
    intro ds h
    cases ds with
    | nil => have e : _ :: _ = [] := h; cases e
    | cons d ds =>
      obtain ⟨v, vs, e, h1, h2⟩ := h
      cases e
      obtain ⟨es, p1, p2⟩ := ih h2
      exact ⟨d :: es, p1.cons d, _, _, rfl, h1, p2⟩
  | swap x y l =>
    intro ds h
    cases ds with
    | nil => have e : _ :: _ = [] := h; cases e
    | cons d ds =>
      obtain ⟨v, vs, e, h1, h2⟩ := h
      cases e
      cases ds with
      | nil => have e : _ :: _ = [] := h2; cases e
      | cons d2 ds =>
        obtain ⟨v2, vs2, e2, h3, h4⟩ := h2
        cases e2
        exact ⟨d2 :: d :: ds, .swap .., _, _, rfl, h3, _, _, rfl, h1, h4⟩
  | trans p1 p2 ih1 ih2 =>
    intro ds h
    obtain ⟨es, q1, q2⟩ := ih2 h
    obtain ⟨es2, q3, q4⟩ := ih1 q2
    exact ⟨es2, q3.trans q1, q4⟩
theorem perm_map {α β : Type} {f : α → β} {es : List β} {u : List α} (p : es.Perm (u.map f)) : ∃ t' : List α, es = t'.map f ∧ t'.Perm u := by
  generalize hm : u.map f = m at p
  induction p generalizing u with
  | nil =>
    have : u = [] := by cases u with | nil => rfl | cons => cases hm
    subst this
    exact ⟨[], rfl, .refl _⟩
  | cons x _ ih =>
    cases u with
    | nil => cases hm
    | cons a u =>
      cases hm
      obtain ⟨t', e, p'⟩ := ih rfl
      exact ⟨a :: t', by rw [List.map_cons, ← e], p'.cons a⟩
  | swap x y l =>
    cases u with
    | nil => cases hm
    | cons a u =>
      cases u with
      | nil => cases hm
      | cons b u =>
        cases hm
        exact ⟨b :: a :: u, rfl, .swap ..⟩
  | trans p1 p2 ih1 ih2 =>
    obtain ⟨t', e, q⟩ := ih2 hm
    obtain ⟨t2, e2, q2⟩ := ih1 e.symm
    exact ⟨t2, e2, q2.trans q⟩
theorem leP_code {p q : T2 Int Int} (hp : okP p = true) (hq : okP q = true) : leP p q = true ↔ TS.code 1000000000000000000 [p.a, p.b] ≤ TS.code 1000000000000000000 [q.a, q.b] := by
  unfold okP at hp hq
  simp only [Bool.and_eq_true, decide_eq_true_eq] at hp hq
  unfold leP
  simp only [Bool.or_eq_true, Bool.and_eq_true, decide_eq_true_eq]
  show _ ↔ p.a * 1000000000000000000 ^ 1 + (p.b * 1000000000000000000 ^ 0 + 0) ≤ q.a * 1000000000000000000 ^ 1 + (q.b * 1000000000000000000 ^ 0 + 0)
  rw [Int.pow_succ, Int.pow_zero]
  omega
theorem T2.ext' {p q : T2 Int Int} (h1 : p.a = q.a) (h2 : p.b = q.b) : p = q := by cases p; cases q; cases h1; cases h2; rfl
theorem srtP_uniq {xs ys : List (T2 Int Int)} (hp : ys.Perm xs) (hs : ys.Pairwise (fun a b => leP a b = true)) : ys = xs.mergeSort leP := by
  have p2 : (xs.mergeSort leP).Perm xs := List.mergeSort_perm _ _
  have s2 : (xs.mergeSort leP).Pairwise (fun a b => leP a b = true) := List.pairwise_mergeSort (by
    intro a b c h1 h2
    unfold leP at *
    simp only [Bool.or_eq_true, Bool.and_eq_true, decide_eq_true_eq] at *
    omega) (by
    intro a b
    unfold leP
    simp only [Bool.or_eq_true, Bool.and_eq_true, decide_eq_true_eq]
    omega) xs
  exact (hp.trans p2.symm).eq_of_pairwise (fun a b _ _ h1 h2 => by
    unfold leP at h1 h2
    simp only [Bool.or_eq_true, Bool.and_eq_true, decide_eq_true_eq] at h1 h2
    exact T2.ext' (by omega) (by omega)) hs s2
theorem tupI_of {K : PySem.W.Frag} {H : Hp} {T : Ad} {t : T2 Int Int} {v : V} (h : Rp K H T (enc t) v) : TupI K H v [t.a, t.b] := by
  obtain ⟨a, xs, rfl, h1, h2⟩ := h
  obtain ⟨v, vs, rfl, h3, h4⟩ := h2
  obtain ⟨v2, vs2, rfl, h5, h6⟩ := h4
  have e6 : vs2 = [] := h6
  subst e6
  have e3 : v = .int t.a := h3
  have e5 : v2 = .int t.b := h5
  subst e3 e5
  exact ⟨a, rfl, h1.sq⟩
theorem pairw_rp {K : PySem.W.Frag} {H : Hp} {T : Ad} : ∀ {t : List (T2 Int Int)} {vs : List V}, RpA K H T (t.map enc) vs → (∀ x ∈ t, okP x = true) →
    vs.Pairwise (fun x y => ∀ n m, TupI K H x n → TupI K H y m → TS.code 1000000000000000000 n ≤ TS.code 1000000000000000000 m) → t.Pairwise (fun a b => leP a b = true)
  | [], vs, h, ho, hp => .nil
  | a :: t, vs, h, ho, hp => by
    obtain ⟨v, ws, rfl, h1, h2⟩ := h
    rw [List.pairwise_cons] at hp
    refine .cons (fun b hb => ?_) (pairw_rp h2 (fun x hx => ho x (List.mem_cons_of_mem _ hx)) hp.2)
    obtain ⟨i, hi⟩ := List.getElem?_of_mem hb
    obtain ⟨w, hw, rw'⟩ := map_get h2 hi
    exact (leP_code (ho a List.mem_cons_self) (ho b (List.mem_cons_of_mem _ hb))).mpr (hp.1 w (List.mem_of_getElem? hw) _ _ (tupI_of h1) (tupI_of rw'))
theorem pv_sortedP {fa : Γ → Option (List (T2 Int Int))} (hg : Gl X "sorted") (hm : X.mg "sorted" = none) (ha : PV X sl .b a fa) (he : starEach [a] X.env = (false, eval a X.env) :: starEach [] X.env := by rfl) :
    PV X sl .f (.Call (.Name "sorted" p) [a] [] pos) (fun s => (fa s).bind fun x => srtP x) :=
  pv_c1 (fun h => pe_callB (cr_sortT (d := 2) (B := 1000000000000000000) (by decide)) hg hm (by decide +kernel) (pa_cons h pa_nil he) (he := he)) (fun T H x u t Q hT r e q => by
    obtain ⟨⟨h64, hok⟩, rfl⟩ := if_some e
    have hok' : ∀ x ∈ u, okP x = true := List.all_eq_true.mp hok
    obtain ⟨p, xs, rfl, h1, h2⟩ := rb_l r
    refine ⟨p, xs, rfl, h1, by rw [map_len h2]; exact h64, fun v hv => ?_, fun ys l hp hs hl => ?_⟩
    · obtain ⟨i, hi⟩ := List.getElem?_of_mem hv
      have hlt : i < u.length := by
        have := (List.getElem?_eq_some_iff.mp hi).1
        rw [map_len h2] at this
        exact this
      obtain ⟨w, hw, rw'⟩ := map_get h2 (List.getElem?_eq_getElem hlt)
      rw [hi] at hw
      cases hw
      refine ⟨_, tupI_of rw', rfl, fun m hm => ?_⟩
      have := hok' _ (List.getElem_mem hlt)
      unfold okP at this
      simp only [Bool.and_eq_true, decide_eq_true_eq] at this
      simp only [List.mem_cons, List.not_mem_nil, or_false] at hm
      rcases hm with rfl | rfl
      · omega
      · omega
    · obtain ⟨es, p1, p2⟩ := rpa_perm hp h2
      obtain ⟨t', ht', p3⟩ : ∃ t' : List (T2 Int Int), es = t'.map enc ∧ t'.Perm u := by
        obtain ⟨t', h1, h2⟩ := perm_map p1
        exact ⟨t', h1, h2⟩
      subst ht'
      have := srtP_uniq p3 (pairw_rp p2 (fun x hx => hok' x (p3.mem_iff.mp hx)) hs)
      rw [this] at p2
      exact q _ _ (same_new hl) (fr_new hT hl p2)) ha
end
end PL

/-! PL20: lstrip, or of texts, truth of texts. -/
namespace PL
open PySem PySem.Spec L2 PyProof.Rows
open Enc (enc)
variable {Γ Γ' Γb ρ τ α β σ' ι : Type} {X : Cx} {sl : Γ → Sl} {slb : Γb → Sl} {e o a b c : Expr} {k : Kd} {pos p apos : Pos}
theorem drop_take_while {q : Nat → Bool} : ∀ l : List Nat, l.drop (l.takeWhile q).length = l.dropWhile q
  | [] => rfl
  | a :: l => by
    cases h : q a with
    | true => rw [List.takeWhile_cons_of_pos h, List.dropWhile_cons_of_pos h, List.length_cons, List.drop_succ_cons, drop_take_while l]
    | false => rw [List.takeWhile_cons_of_neg (by simp [h]), List.dropWhile_cons_of_neg (by simp [h])]; rfl
theorem lstrip_eq (x y : List Nat) : Txt.lstripChars ⟨x.toArray⟩ ⟨y.toArray⟩ = ⟨(x.dropWhile (y.toArray.contains)).toArray⟩ := by
  unfold Txt.lstripChars
  rw [W.stripBy_eq]
  unfold W.stripped
  simp only [if_true, if_false, Bool.false_eq_true]
  rw [← drop_take_while]
  show Builtin.Str.strSub _ _ _ = _
  unfold Builtin.Str.strSub
  simp [Str.length]
  exact List.take_of_length_le (by rw [List.length_drop]; omega)
def tLst (x y : Tx) : Option Tx := if x.cs.length ≤ sizeLine then some ⟨x.cs.dropWhile (fun c => decide (c ∈ y.cs))⟩ else none
theorem pv_lstripC {fo fe : Γ → Option Tx} (ho : PV X sl .b o fo) (he : PV X sl .b e fe) (hs : starEach [e] X.env = [(false, eval e X.env)] := by rfl) (hbase : attributeBase o "lstrip" X.env (eval o X.env) = eval o X.env := by rfl) (hline : (apos.endLine == pos.line) = true := by rfl) :
    PV X sl .a (.Call (.Attribute o "lstrip" apos) [e] [] pos) (fun s => (fo s).bind fun x => (fe s).bind fun y => tLst x y) :=
  PE.imp (pe_m1 PySem.F.slot_str_lstrip PySem.F.type_str_lstrip mt_lstripChars ho he hs hbase hline) fun σ H Q ⟨γ, S0, S, t, E, hf, q⟩ => by
    obtain ⟨u, w, h1, h2, h3⟩ := bind2 hf
    obtain ⟨hz, rfl⟩ := if_some h3
    refine ⟨γ, S0, S, u, E, h1, fun x H1 s1 r1 => ⟨⟨_, rb_t r1⟩, γ, S0, S, w, E.same s1, h2, fun y H2 s2 r2 => ?_⟩⟩
    refine ⟨_, _, rb_t r1, by rw [rb_t r2], by show Array.size _ ≤ _; simpa using hz, q _ H2 (s1.trans s2) ?_⟩
    show V.str _ = V.str _
    rw [lstrip_eq]
    have ef : w.cs.toArray.contains = fun c => decide (c ∈ w.cs) := by
      funext c
      rw [Bool.eq_iff_iff]
      simp
    rw [ef]
/-- x or y, of texts -/
def tOr (x : Tx) (y : Option Tx) : Option Tx := if x.cs.length ≤ sizeLine then (if x.cs = [] then y else some x) else none
theorem pv_orS {fa fb : Γ → Option Tx} (ha : PV X sl .a a fa) (hb : PV X sl .a b fb) : PV X sl .a (.BoolOp .Or [a, b] pos) (fun s => (fa s).bind fun x => tOr x (fb s)) :=
  PE.imp (pe_orT ha (pe_one hb)) fun σ H Q ⟨γ, S0, S, t, E, hf, q⟩ => by
    obtain ⟨u, h1, h2⟩ := bind1 hf
    obtain ⟨hz, h3⟩ : u.cs.length ≤ sizeLine ∧ (if u.cs = [] then fb γ else some u) = some t := by
      unfold tOr at h2
      by_cases c : u.cs.length ≤ sizeLine
      · rw [if_pos c] at h2; exact ⟨c, h2⟩
      · rw [if_neg c] at h2; cases h2
    refine ⟨γ, S0, S, u, E, h1, fun x H1 s1 r1 => ?_⟩
    have r2 : x = .str ⟨u.cs.toArray⟩ := r1
    subst r2
    have hlen : (⟨u.cs.toArray⟩ : Str).length = u.cs.length := by show Array.size _ = _; simp
    by_cases c : u.cs = []
    · rw [if_pos c] at h3
      refine ⟨false, ⟨by rw [hlen]; exact hz, by rw [hlen, c]; rfl⟩, ?_⟩
      show if (false = true) then _ else _
      rw [if_neg (by decide)]
      exact ⟨γ, S0, S, t, E.same s1, h3, fun v H2 s2 r => q v H2 (s1.trans s2) r⟩
    · rw [if_neg c] at h3
      have h4 : u = t := Option.some.inj h3
      have hpos : 0 < u.cs.length := List.length_pos_iff.mpr c
      refine ⟨true, ⟨by rw [hlen]; exact hz, by rw [hlen]; have : ((u.cs.length : Int) != 0) = true := (bne_iff_ne).mpr (by omega); exact this.symm⟩, ?_⟩
      show if (true = true) then _ else _
      rw [if_pos rfl]
      exact q _ H1 s1 (by rw [← h4]; rfl)
end PL

/-! PL21: sorted(set(xs)), ints, any number of them. -/
namespace L2
open PySem PySem.Spec PyProof.Rows
section
variable {P : Program} {w : World} {A : Around} {E : Value → Shared → Prop} {s : Shared} {a : Addr}
/-- sorted(s) of a set of ints, any number of them -/
theorem sorted_setN {S : Int → Bool} {n : Nat} {Q : Value → Shared → Prop} (R : SetR w s.heap a S n) (hh : A.handled = none) (hn : n ≤ sizeLine)
    (hQ : ∀ s' p (out : Array Value) (c : Nat) (ns : List Int), (∀ b o, s.heap.get? b = some o → s'.heap.get? b = some o) → s'.gens = s.gens → s'.os = s.os → s.heap.objs.size ≤ p →
      s'.heap.get? p = some (seqObj "list" out c) → IntsAre out.toList ns → ns.Pairwise (· < ·) → (∀ k, k ∈ ns ↔ S k = true) → ns.length = n → Q (.ref p) s') :
    wpAny (model P w) A (call (.builtin "sorted") [.ref a]) Q E s := by
  obtain ⟨o, es, ep, t, ho, hex, hd, g, nd, hm, hb, hf, hc, hr, hl⟩ := R
  refine Calls.call_function_entry kind_sorted plain_sorted entry_sorted (args_sorted1 _) ?_
  unfold Builtin.«sorted»
  refine wpAny_bind (m := checkCount "sorted" 1 1 _) (wpAny_pure ?_)
  refine wpAny_bind (collect_set (A := A.in1) hh ⟨o, ho, hex.1, hd⟩ hf hb hr hl fun s1 vs k1 hz g1 o1 pm => ?_)
  have len : vs.length = n := by rw [pm.length_eq, List.length_map, Array.length_toList]; exact hc
  have hI : IntsAre vs (vs.map Builtin.Re.reRawOf) := ints_of vs fun v hv => by
    obtain ⟨e, he, q⟩ := List.mem_map.mp (pm.mem_iff.mp hv)
    obtain ⟨k, tk, h1, _⟩ := g e he
    exact ⟨k, tk, by rw [← q]; exact h1⟩
  have pk : (vs.map Builtin.Re.reRawOf).Perm (es.toList.map keyOf) := by
    have q := pm.map Builtin.Re.reRawOf
    rw [List.map_map] at q
    exact q
  refine wpAny_bind (wpAny_newList ?_ (by rw [len]; exact hn))
  have hL : (s1.heap.push (seqObj "list" vs.toArray 0)).get? s1.heap.objs.size = some (seqObj "list" vs.toArray 0) := Heap.get?_push_size _ rfl
  refine wpAny_bind (wpAny_holding (wpAny_call_entry slot_list_sort ⟨_, hL, rfl⟩ entry_list_sort
    (SrtO.list_sort_ord SrtO.swo_int hL (by rw [len]; exact hn) (fun h2 => SrtO.ints_sortable hI h2) fun out h1 h2 => ⟨_, rfl, ?_⟩) (args_list_sort _)))
  obtain ⟨i1, i2, i3⟩ := SrtO.ints_out hI h1 h2
  obtain ⟨c, hc'⟩ := sortedHeap_at (vs := vs) (out := out.toArray) hL
  have pn := i2.trans pk
  refine wpAny_pure ⟨_, rfl, hQ _ s1.heap.objs.size out.toArray c (out.map SrtO.iv) (fun b u e => ?_) g1 o1 hz hc' (by simpa using i1) (lt_of_le_nodup _ i3 (pn.nodup_iff.mpr nd)) (fun k => by rw [pn.mem_iff, ← hm k]) ?_⟩
  · have q := k1 b u e
    have lt := Heap.lt_size q
    show (sortedHeap (s1.heap.push (seqObj "list" vs.toArray 0)) s1.heap.objs.size vs out.toArray).get? b = some u
    rw [sortedHeap_old (Nat.ne_of_lt lt) (by rw [size_push']; exact Nat.lt_succ_of_lt lt)]
    exact Heap.get?_push_of_some _ q
  · rw [pn.length_eq, List.length_map, Array.length_toList]; exact hc
set_option maxHeartbeats 3200000 in
/-- set(l) of a list of ints (the road of set(t), a tuple, turned to lists) -/
theorem call_set_listN {l : Addr} {items : Array Value} (ns : List Int) {Q : Value → Shared → Prop} (hh : A.handled = none) (hl : s.heap.IsList l items) (hit : IntsAre items.toList ns) (hb : ns.length + 1 < scanBound)
    (h : ∀ (h' : Heap) (tk c : Nat), SetR w h' s.heap.objs.size (fun j => decide (j ∈ ns)) c → c ≤ ns.length → (∀ b o, s.heap.get? b = some o → h'.get? b = some o) → Q (.ref s.heap.objs.size) { s with heap := h', toks := tk }) :
    wpAny (model P w) A (call (.type "set") [.ref l]) Q E s := by
  have size : items.size = ns.length := by
    have q := IntsAre.length hit
    rw [Array.length_toList] at q
    exact q
  obtain ⟨c, tl, hmro⟩ := F.called_set.mro
  have hmade := F.called_set.made
  have hsub := F.called_set.sub
  refine wpAny_call (codeAny_of_tree ?_)
  show wpAny _ _ (callAny (.type "set") _) _ _ _
  refine wpAny_pure ⟨Code.quiet_builtin _ (by decide +kernel), codeAny_builtin F.entry_type_call ?_⟩
  rw [Around.under_plain (weight_type_call_type "set" [.ref l] []) rfl]
  have h1 := F.called_set.notType
  have h2 := F.called_set.canCreate
  have hct := F.typeCall_set_1 (.ref l)
  repeat (any_goals (first | assumption | wp_step))
  generalize hnw : s.heap.push { cls := .type "set", dict := none, data := .set #[] 0 (.fresh 0 0 (!w.params.followText "set-order")) } = new
  have at_new : new.get? s.heap.objs.size = some { cls := .type "set", dict := none, data := .set #[] 0 (.fresh 0 0 (!w.params.followText "set-order")) } := by rw [← hnw]; exact Heap.get?_push_size _ rfl
  have sz_new : new.objs.size = s.heap.objs.size + 1 := by rw [← hnw]; exact Heap.size_push ..
  have old : ∀ b o, s.heap.get? b = some o → new.get? b = some o := fun b o e => by rw [← hnw]; exact Heap.get?_push_of_some _ e
  refine codeAny_mono (code_set_led1 (.ref l) (E := E) (Q₁ := fun v s₁ => v = .ref s.heap.objs.size ∧ s₁ = { s with heap := new }) ⟨rfl, by rw [← hnw]⟩) fun r s₁ hr => ?_
  cases r with
  | error e => exact hr
  | ok fl =>
    cases fl with
    | ret v =>
      obtain ⟨rfl, rfl⟩ := hr
      have hT : Shared.TypeIs { s with heap := new } (.ref s.heap.objs.size) "set" := ⟨_, at_new, rfl⟩
      have hli := F.called_set.init.lookup
      have hbi := F.called_set.init.bind (.ref s.heap.objs.size)
      repeat (any_goals (first | assumption | wp_step))
      refine codeAny_mono (codeAny_call_builtin (R := wants (fun r s₂ => r = .none ∧ ∃ h' tk c, s₂ = { s with heap := h', toks := tk } ∧ SetR w h' s.heap.objs.size (fun j => decide (j ∈ ns)) c ∧ c ≤ ns.length ∧
          (∀ b o, s.heap.get? b = some o → h'.get? b = some o)) E) F.called_set.init.plain F.entry_set_init (check_set_init_1 hT ?_)) fun r₂ s₂ hr₂ => ?_
      · obtain ⟨ol, hol, hcl, nl, hdl⟩ := hl
        obtain ⟨ocls, odict, odata, oslots⟩ := ol
        simp only at hcl hdl
        subst hcl; subst hdl
        have hol' := old _ _ hol
        have hsls := F.sub_list_set
        have hslf := F.sub_list_frozenset
        have hne : (Value.type "list" == Value.type "dict") = false := by decide
        have isl : new.IsList l items := ⟨_, hol', rfl, nl, rfl⟩
        unfold Builtin.«set.__init__» noKeywords Builtin.Frozenset.updateFrom
        generalize hPI : pyIter = PI
        wp_walk
        subst hPI
        refine wpAny_pyIter_list isl ?_
        refine wpAny_bind (wpAny_runValue ?_)
        have low : l < s.heap.objs.size := Heap.lt_size hol
        have hh3 : A.in1.in1.in1.handled = none := by simp [hh]
        have far : l ≠ new.objs.size := by rw [sz_new]; exact Nat.ne_of_lt (Nat.lt_succ_of_lt low)
        have out : s.heap.objs.size ∉ [new.objs.size, l] := by
          rw [sz_new]; simp only [List.mem_cons, List.not_mem_nil, or_false, not_or]
          exact ⟨Nat.ne_of_lt (Nat.lt_succ_self _), Nat.ne_of_gt low⟩
        have hval : ∀ (i : Nat) (v : Value), items[i]? = some v → ∃ k t, ns[i]? = some k ∧ v = .int k t := fun i v hv => by
          have hi : i < ns.length := by rw [← size]; exact (Array.getElem?_eq_some_iff.mp hv).1
          obtain ⟨t, e⟩ := PyProof.Rows.IntsAre.int_at hit i v (by rw [Array.getElem?_toList]; exact hv)
          refine ⟨ns[i], t, List.getElem?_eq_getElem hi, ?_⟩
          rw [e, List.getD_eq_getElem?_getD, List.getElem?_eq_getElem hi] <;> rfl
        refine set_update_ints ((Walks.list hh3 _ l far items).toS) s.heap.objs.size out ns size hb hval (items.size - 0) 0 _ (by omega) (Nat.zero_le _)
          ⟨⟨_, Heap.get?_push_size _ rfl, rfl, rfl⟩, (isl.push _)⟩ ⟨0, Nat.le_refl 0, setR_new_at (Heap.get?_push_of_some _ at_new)⟩ ?hR
        intro s' c' hm hc' hS'
        obtain ⟨h', g2, d', tk', os'⟩ := s'
        have eg : g2 = s.gens := hm.gens
        have ed : d' = s.drawn := hm.drawn
        have eo : os' = s.os := hm.os
        subst eg; subst ed; subst eo
        show wpAny _ _ _ _ _ _
        refine wpAny_pure ?_
        show wpAny _ _ (ret Value.none) _ _ _
        rw [size] at hc'
        refine wpAny_pure ⟨rfl, h', tk', c', rfl, hS', hc', fun b o e => ?_⟩
        have hb0 : b < s.heap.objs.size := Heap.lt_size e
        exact hm.heap b o (by simp only [List.mem_cons, List.not_mem_nil, or_false, not_or]; exact ⟨Nat.ne_of_lt hb0, by rw [sz_new]; exact Nat.ne_of_lt (Nat.lt_succ_of_lt hb0)⟩) (Heap.get?_push_of_some _ (old _ _ e))
      · cases r₂ with
        | error e => exact hr₂
        | ok fl₂ =>
          cases fl₂ with
          | ret r =>
            obtain ⟨rfl, h', tk, c', rfl, hS', hc', hk'⟩ := hr₂
            repeat (any_goals (first | assumption | wp_step))
            exact h _ _ _ hS' hc' hk'
          | _ => exact hr₂.elim
    | _ => exact hr.elim
end
end L2

namespace L2
open PySem PySem.Spec PyProof.Rows
section
variable {X : Cx}
/-- set(xs), a list of ints -/
def rSetI (K : PySem.W.Frag) (w : World) : List V → Hp → VK → Prop := fun vs H Q => ∃ (a : Addr) (ns : List Int), vs = [V.ref a] ∧ SqL K H a (ns.map V.int) ∧ ns.length + 1 < scanBound ∧
  ∀ (p : Addr) (c : Nat), H p = none → c ≤ ns.length → Q (.ref p) (upd H p (SetO w p (fun j => decide (j ∈ ns)) c))
theorem cr_setL (hc : X.calm = true) : CallR X (.type "set") (rSetI X.K X.w) := by
  intro pins s σ H vs us Q I r h
  obtain ⟨a, ns, rfl, hs, hb, q⟩ := h
  obtain ⟨its, rv, hl, hz⟩ := I.list hs
  rw [Vals.ref1 r]
  refine call_set_listN ns (I.ok.hd hc) hl.isList (by simpa using rv.ints) hb fun h' tk c new hc' hk => ?_
  exact ⟨.ref _, upd H s.heap.objs.size (SetO X.w s.heap.objs.size (fun j => decide (j ∈ ns)) c), I.laid (t' := tk) hk (Nat.le_refl _) (setO_new new), rfl, q _ c (I.hok.fresh (Nat.le_refl _)) hc'⟩
/-- sorted of it -/
def rSortedSetN (w : World) : List V → Hp → VK → Prop := fun vs H Q => ∃ (a : Addr) (S : Int → Bool) (n : Nat), vs = [V.ref a] ∧ H a = some (SetO w a S n) ∧ n ≤ sizeLine ∧
  ∀ (ns : List Int) (p : Addr), ns.Pairwise (· < ·) → (∀ k : Int, k ∈ ns ↔ S k = true) → H p = none → Q (.ref p) (upd H p (.lst (ns.map V.int)))
theorem cr_sortedSetN (hc : X.calm = true) : CallR X (.builtin "sorted") (rSortedSetN X.w) := by
  intro pins s σ H vs us Q I r h
  obtain ⟨a, S, n, rfl, ha, hn, q⟩ := h
  rw [Vals.ref1 r]
  refine sorted_setN (setO_get I ha) (I.ok.hd hc) hn fun s' p out c ns k g o hp hg hi hs hm hl => ?_
  have len : (ns.map V.int).length ≤ sizeLine := by rw [List.length_map, hl]; exact hn
  have free : H p = none := I.hok.fresh hp
  have J : Inv X pins σ (upd H p (.lst (ns.map V.int))) { s with heap := s'.heap, gens := s'.gens, drawn := s'.drawn, toks := s'.toks } :=
    I.call (ch := []) (Un.laid k hp free) (I.hok.laid k hp ⟨len, out.toList, c, vals_of_ints hi, hg⟩) (by rw [g]; exact I.bare) (fun _ z => nomatch z)
  have e : s' = { s with heap := s'.heap, gens := s'.gens, drawn := s'.drawn, toks := s'.toks } := by
    cases s'
    cases s
    cases o
    rfl
  rw [e]
  exact ⟨.ref p, _, J, rfl, q ns p hs hm free⟩
end
end L2
namespace PL
open PySem PySem.Spec L2
/-- the members in order, each once -/
def insS (x : Int) : List Int → List Int
  | [] => [x]
  | y :: ys => if x < y then x :: y :: ys else if x = y then y :: ys else y :: insS x ys
def srtS : List Int → List Int
  | [] => []
  | x :: xs => insS x (srtS xs)
theorem mem_insS {x k : Int} : ∀ {l : List Int}, k ∈ insS x l ↔ k = x ∨ k ∈ l
  | [] => by simp [insS]
  | y :: ys => by
    unfold insS
    split
    · simp
    · split
      · rename_i h
        subst h
        simp
      · rw [List.mem_cons, mem_insS (l := ys), List.mem_cons]
        constructor
        · rintro (h | h | h)
          · exact .inr (.inl h)
          · exact .inl h
          · exact .inr (.inr h)
        · rintro (h | h | h)
          · exact .inr (.inl h)
          · exact .inl h
          · exact .inr (.inr h)
theorem mem_srtS {k : Int} : ∀ {l : List Int}, k ∈ srtS l ↔ k ∈ l
  | [] => Iff.rfl
  | x :: xs => by rw [srtS, mem_insS, mem_srtS, List.mem_cons]
theorem pw_insS {x : Int} : ∀ {l : List Int}, l.Pairwise (· < ·) → (insS x l).Pairwise (· < ·)
  | [], _ => .cons (fun _ h => absurd h (by simp)) .nil
  | y :: ys, h => by
    obtain ⟨h1, h2⟩ := List.pairwise_cons.mp h
    unfold insS
    split
    · rename_i hx
      exact .cons (fun z hz => by
        rcases List.mem_cons.mp hz with rfl | hz
        · exact hx
        · exact Int.lt_trans hx (h1 z hz)) h
    · split
      · exact h
      · rename_i h3 h4
        refine .cons (fun z hz => ?_) (pw_insS h2)
        rcases mem_insS.mp hz with rfl | hz
        · omega
        · exact h1 z hz
theorem pw_srtS : ∀ {l : List Int}, (srtS l).Pairwise (· < ·)
  | [] => .nil
  | x :: xs => pw_insS pw_srtS
theorem lt_uniq : ∀ {a b : List Int}, a.Pairwise (· < ·) → b.Pairwise (· < ·) → (∀ k, k ∈ a ↔ k ∈ b) → a = b
  | [], [], _, _, _ => rfl
  | [], y :: ys, _, _, h => absurd ((h y).mpr List.mem_cons_self) (by simp)
  | x :: xs, [], _, _, h => absurd ((h x).mp List.mem_cons_self) (by simp)
  | x :: xs, y :: ys, h1, h2, h => by
    obtain ⟨a1, a2⟩ := List.pairwise_cons.mp h1
    obtain ⟨b1, b2⟩ := List.pairwise_cons.mp h2
    have e : x = y := by
      rcases List.mem_cons.mp ((h x).mp List.mem_cons_self) with q | q
      · exact q
      · rcases List.mem_cons.mp ((h y).mpr List.mem_cons_self) with r | r
        · exact r.symm
        · have := a1 y r
          have := b1 x q
          omega
    subst e
    congr 1
    refine lt_uniq a2 b2 fun k => ⟨fun hk => ?_, fun hk => ?_⟩
    · rcases List.mem_cons.mp ((h k).mp (List.mem_cons_of_mem _ hk)) with q | q
      · have := a1 k hk
        omega
      · exact q
    · rcases List.mem_cons.mp ((h k).mpr (List.mem_cons_of_mem _ hk)) with q | q
      · have := b1 k hk
        omega
      · exact q
def srtSet (x : List Int) : Option (List Int) := if x.length ≤ 4000 then some (srtS x) else none
section
variable {Γ : Type} {X : Cx} {sl : Γ → Sl} {a : Expr} {p p2 pos pos2 : Pos}
theorem pv_srtset {fa : Γ → Option (List Int)} (hc : X.calm = true) (hg : Gl X "sorted") (hm : X.mg "sorted" = none) (hg2 : Gl X "set") (hm2 : X.mg "set" = none) (ha : PV X sl .b a fa)
    (he : starEach [a] X.env = (false, eval a X.env) :: starEach [] X.env := by rfl)
    (he2 : starEach [Expr.Call (.Name "set" p2) [a] [] pos2] X.env = (false, eval (Expr.Call (.Name "set" p2) [a] [] pos2) X.env) :: starEach [] X.env := by rfl) :
    PV X sl .f (.Call (.Name "sorted" p) [.Call (.Name "set" p2) [a] [] pos2] [] pos) (fun s => (fa s).bind fun x => srtSet x) :=
  pv_1 (r := fun x H Q => rSetI X.K X.w [x] H fun y H1 => rSortedSetN X.w [y] H1 Q) (fun {ta} h => pe_callB (cr_sortedSetN hc) hg hm (by decide +kernel) (pa_cons (pe_callTy (p := p2) (pos := pos2) (cr_setL hc) hg2 hm2 (by decide +kernel) (pa_cons h pa_nil he) (he := he)) pa_nil he2) (he := he2)) (fun T H x u t Q hT r e q => by
    obtain ⟨hl, rfl⟩ := if_some e
    obtain ⟨l, xs, rfl, h1, h2⟩ := rb_l r
    have e2 := rpa_int h2
    rw [e2] at h1
    refine ⟨l, u, rfl, h1, by unfold scanBound; omega, fun p c hp hc' => ?_⟩
    refine ⟨p, _, c, rfl, upd_same, by rw [sizeLine_eq]; omega, fun ns p2 hs hm hp2 => ?_⟩
    have en : ns = srtS u := lt_uniq hs pw_srtS fun k => by rw [hm, mem_srtS]; simp
    subst en
    have s1 : Same H (upd H p (SetO X.w p (fun j => decide (j ∈ u)) c)) := same_new hp
    have hT1 : ∀ a, T a → upd H p (SetO X.w p (fun j => decide (j ∈ u)) c) a ≠ none := fun a ha z => by
      obtain ⟨o, ho⟩ := Option.ne_none_iff_exists'.mp (hT a ha)
      rw [s1 a o ho] at z
      cases z
    exact q _ _ (s1.trans (same_new hp2)) ((fr_new hT1 hp2 (rpa_ints _)).back s1)) ha
end
end PL

/-! PL22: () beside pairs. -/
namespace PL
open PySem PySem.Spec L2 Enc
inductive E2 (α β : Type)
  | e
  | v (t : T2 α β)
deriving DecidableEq
section
variable {α β : Type} [Enc α] [Enc β]
instance : Enc (E2 α β) := ⟨fun t => match t with | .e => .tuple [] | .v t => enc t⟩
instance : NoL (E2 α β) := ⟨fun t => match t with | .e => ⟨nofun, nofun⟩ | .v t => ⟨nofun, nofun⟩⟩
instance : NN (E2 α β) := ⟨fun t => match t with | .e => nofun | .v t => nofun⟩
instance [DecidableEq α] [EqT α] [DecidableEq β] [EqT β] : EqT (E2 α β) := ⟨fun t => match t with | .e => true | .v t => EqT.ok t, EqT.dep (T2 α β), fun t => match t with
  | .e => by
    show PyData.depth (.tuple []) ≤ max (EqT.dep α) (EqT.dep β) + 1
    simp [PyData.depth, PyData.depthAll]
  | .v t => EqT.dle t, fun t h => match t, h with
  | .e, _ => rfl
  | .v t, h => EqT.can t h, fun s t => match s, t with
  | .e, .e => by
    show PyData.eqv (.tuple []) (.tuple []) = _
    simp [PyData.eqv, PyData.eqvAll]
  | .e, .v t => by
    show PyData.eqv (.tuple []) (.tuple [enc t.a, enc t.b]) = _
    simp [PyData.eqv, PyData.eqvAll]
  | .v s, .e => by
    show PyData.eqv (.tuple [enc s.a, enc s.b]) (.tuple []) = _
    simp [PyData.eqv, PyData.eqvAll]
  | .v s, .v t => by
    have e := EqT.eqv s t
    by_cases h : s = t
    · subst h; simp at e ⊢; exact e
    · have h2 : ¬ (E2.v s = E2.v t) := fun z => h (by cases z; rfl)
      simp [h2, h] at e ⊢; exact e⟩
def unE : List (E2 α β) → Option (List (T2 α β))
  | [] => some []
  | .e :: _ => none
  | .v t :: ts => (unE ts).map (t :: ·)
theorem unE_enc : ∀ {x : List (E2 α β)} {y : List (T2 α β)}, unE x = some y → enc y = enc x
  | [], y, h => by cases h; rfl
  | .e :: _, y, h => by cases h
  | .v t :: ts, y, h => by
    rw [unE] at h
    cases h1 : unE ts with
    | none => rw [h1] at h; cases h
    | some z =>
      rw [h1] at h
      cases h
      have e := unE_enc h1
      have e : PyData.list (z.map enc) = .list (ts.map enc) := e
      show PyData.list (enc t :: z.map enc) = .list (enc t :: ts.map enc)
      rw [PyData.list.inj e]
theorem unE_map : ∀ y : List (T2 α β), unE (y.map E2.v) = some y
  | [] => rfl
  | t :: ts => by rw [List.map_cons, unE, unE_map ts]; rfl
end
section
variable {Γ : Type} {X : Cx} {sl : Γ → Sl} {e : Expr} {k : Kd} {pos : Pos} {α β : Type}
theorem PV.pc [Enc α] [Enc β] {f : Γ → Option α} (g : α → Option β) (p : ∀ {x y}, g x = some y → enc y = enc x) (h : PV X sl k e f) : PV X sl k e (fun s => (f s).bind fun t => g t) := PE.imp h fun σ H Q ⟨γ, S0, S, t, E, hf, q⟩ => by
  obtain ⟨u, h1, h2⟩ := bind1 hf
  exact ⟨γ, S0, S, u, E, h1, fun v H' s r => q v H' s (by rw [p h2]; exact r)⟩
theorem pv_e2 [Enc α] [Enc β] {x1} : PV X sl .a (.Tuple [] x1 pos) (fun _ => some (E2.e : E2 α β)) := PE.imp (pe_tup pa_nil) fun σ H Q ⟨γ, S0, S, t, E, hf, q⟩ => by
  cases hf
  exact ⟨by show 0 ≤ sizeLine; decide, fun p hp => q _ _ (same_new hp) (rp_newT E.dT hp rfl)⟩
end
end PL

/-! PL23: sorted of a list of any ordered data; list.count; extend. -/
namespace PL
open PySem PySem.Spec L2 PyProof.Rows
open Enc (enc)
/-- data that sorted orders -/
class OrdT (τ : Type) [Enc τ] where
  le : τ → τ → Bool
  eqle : PySem.W.dataLe false (enc : τ → PyData) = le
  ali : ∀ a b : τ, PySem.W.alike (enc a) (enc b) = true
  kind : (∀ t : τ, ∃ x r, enc t = .tuple (x :: r)) ∨ ∀ t : τ, enc t ≠ .none ∧ ∀ xs, enc t ≠ .tuple xs
  dep : ∀ t : τ, (enc t).depth ≤ 30
  nd : ∀ t : τ, (enc t).hasDict = false
  tot : ∀ a b : τ, (le a b || le b a) = true
  tra : ∀ a b c : τ, le a b = true → le b c = true → le a c = true
  anti : ∀ a b : τ, le a b = true → le b a = true → a = b
theorem depthAll_ints : ∀ xs : List Int, PyData.depthAll (xs.map .int) = 0
  | [] => by simp [PyData.depthAll]
  | x :: xs => by simp [PyData.depthAll, PyData.depth, depthAll_ints xs]
theorem hasDictAll_ints : ∀ xs : List Int, PyData.hasDictAll (xs.map .int) = false
  | [] => by simp [PyData.hasDictAll]
  | x :: xs => by simp [PyData.hasDictAll, PyData.hasDict, hasDictAll_ints xs]
instance : OrdT (List Int) where
  le p q := decide (p ≤ q)
  eqle := PySem.W.dataLe_rows (fun b : List Int => b)
  ali a b := by
    show PySem.W.alike (.list (a.map .int)) (.list (b.map .int)) = true
    rw [PySem.W.alike, PySem.W.alike_ints]
  kind := .inr fun t => ⟨nofun, nofun⟩
  dep t := by
    show PyData.depth (.list (t.map .int)) ≤ 30
    rw [PyData.depth, depthAll_ints]
    decide
  nd t := by
    show PyData.hasDict (.list (t.map .int)) = false
    rw [PyData.hasDict, hasDictAll_ints]
  tot a b := by
    simp only [Bool.or_eq_true, decide_eq_true_eq]
    exact List.le_total a b
  tra a b c h1 h2 := by
    simp only [decide_eq_true_eq] at *
    exact List.le_trans h1 h2
  anti a b h1 h2 := by
    simp only [decide_eq_true_eq] at *
    exact List.le_antisymm h1 h2
section
variable {τ : Type} [Enc τ] [OrdT τ]
def insD (x : τ) : List τ → List τ
  | [] => [x]
  | y :: ys => if OrdT.le x y then x :: y :: ys else y :: insD x ys
def srtD : List τ → List τ
  | [] => []
  | x :: xs => insD x (srtD xs)
theorem insD_perm (x : τ) : ∀ l : List τ, (insD x l).Perm (x :: l)
  | [] => .refl _
  | y :: ys => by
    unfold insD
    split
    · exact .refl _
    · exact ((insD_perm x ys).cons y).trans (.swap x y ys)
theorem srtD_perm : ∀ l : List τ, (srtD l).Perm l
  | [] => .refl _
  | x :: xs => (insD_perm x _).trans ((srtD_perm xs).cons x)
theorem insD_pw (x : τ) : ∀ {l : List τ}, l.Pairwise (fun a b => OrdT.le a b = true) → (insD x l).Pairwise (fun a b => OrdT.le a b = true)
  | [], _ => List.pairwise_singleton _ _
  | y :: ys, h => by
    obtain ⟨h1, h2⟩ := List.pairwise_cons.mp h
    unfold insD
    split
    · rename_i c
      exact .cons (fun z hz => by
        rcases List.mem_cons.mp hz with rfl | hz
        · exact c
        · exact OrdT.tra _ _ _ c (h1 z hz)) h
    · rename_i c
      have c2 : OrdT.le y x = true := by
        have := OrdT.tot x y
        rw [Bool.or_eq_true] at this
        exact this.resolve_left c
      refine .cons (fun z hz => ?_) (insD_pw x h2)
      rcases List.mem_cons.mp ((insD_perm x ys).mem_iff.mp hz) with rfl | hz
      · exact c2
      · exact h1 z hz
theorem srtD_pw : ∀ l : List τ, (srtD l).Pairwise (fun a b => OrdT.le a b = true)
  | [] => .nil
  | x :: xs => insD_pw x (srtD_pw xs)
theorem srtD_eq (l : List τ) : l.mergeSort OrdT.le = srtD l :=
  ((List.mergeSort_perm l _).trans (srtD_perm l).symm).eq_of_pairwise (fun a b _ _ h1 h2 => OrdT.anti a b h1 h2) (List.pairwise_mergeSort (fun a b c h1 h2 => OrdT.tra a b c h1 h2) (fun a b => OrdT.tot a b) l) (srtD_pw l)
end
section
variable {X : Cx} {τ : Type} [Enc τ] {K : PySem.W.Frag} {H : Hp} {T : Ad}
def EcR (K : PySem.W.Frag) (H : Hp) (T : Ad) (u : Value) (t : τ) : Prop := ∃ x : V, RelV x u ∧ Rp K H T (enc t) x
theorem each_of : ∀ {t : List τ} {xs : List V} {us : List Value}, RpA K H T (t.map enc) xs → Vals xs us → PySem.W.EachIs (EcR K H T) us t
  | [], xs, us, h, r => by
    have h : xs = [] := h
    subst h
    cases r
    exact .nil
  | t :: ts, xs, us, h, r => by
    obtain ⟨v, vs, e, h1, h2⟩ := h
    subst e
    cases r with
    | cons r1 r2 => exact .cons ⟨v, r1, h1⟩ (each_of h2 r2)
theorem of_each : ∀ {t : List τ} {us : List Value}, PySem.W.EachIs (EcR K H T) us t → ∃ xs, Vals xs us ∧ RpA K H T (t.map enc) xs
  | _, _, .nil => ⟨[], .nil, rfl⟩
  | _, _, .cons ⟨x, r, h⟩ es => by
    obtain ⟨xs, r2, h2⟩ := of_each es
    exact ⟨x :: xs, .cons r r2, ⟨x, xs, rfl, h, h2⟩⟩
/-- sorted(xs) of ordered data -/
def rSortD (τ : Type) [Enc τ] [OrdT τ] (K : PySem.W.Frag) : List V → Hp → VK → Prop := fun vs H Q => ∃ (a : Addr) (xs : List V) (t : List τ) (T : Ad), vs = [V.ref a] ∧ SqL K H a xs ∧ RpA K H T (t.map enc) xs ∧ t.length ≤ sizeLine ∧
  ∀ (ys : List V) (p : Addr), RpA K H T ((srtD t).map enc) ys → H p = none → Q (.ref p) (upd H p (.lst ys))
theorem cr_sortD [OrdT τ] (hu : X.A.units + 64 < cLine) : CallR X (.builtin "sorted") (rSortD τ X.K) := by
  intro pins s σ H vs us Q I r h
  obtain ⟨a, xs, t, T, rfl, hs, hr, hlen, q⟩ := h
  obtain ⟨its, rv, hl, hz⟩ := I.list hs
  rw [Vals.ref1 r]
  have e1 := each_of hr rv
  have er : PySem.W.EachIs (fun v (b : τ) => ∃ as, Reads s.heap v (enc b) as) its t := e1.mono fun u b ⟨x, r1, h1⟩ => reads_rp I _ x u h1 r1 (OrdT.nd b)
  refine PySem.W.sorted_data hl.isList e1 er (PySem.W.AllAlike.of OrdT.ali) ?_ hlen (fun b _ => ?_) fun out ho eo => ?_
  · rcases (OrdT.kind (τ := τ)) with k | k
    · exact PySem.W.Sortable.tuples k
    · exact PySem.W.Sortable.others k
  · have := OrdT.dep b
    omega
  · rw [OrdT.eqle, srtD_eq] at eo
    obtain ⟨ys, r2, h2⟩ := of_each eo
    obtain ⟨ep, he'⟩ := PyProof.Rows.sortedAll_at s.heap its (List.toArray out)
    have hy : ys.length ≤ sizeLine := by rw [r2.length, ho]; exact hlen
    exact ⟨.ref _, upd H (s.heap.objs.size + 1) (.lst ys), I.laid (t' := s.toks) (fun _ _ => PyProof.Rows.sortedAll_old) (Nat.le_succ _) ⟨hy, out, ep, r2, he'⟩, rfl, q _ _ h2 (I.hok.fresh (Nat.le_succ _))⟩
def sortedD [OrdT τ] (x : List τ) : Option (List τ) := if x.length ≤ 16777216 then some (srtD x) else none
end
section
variable {Γ : Type} {X : Cx} {sl : Γ → Sl} {a : Expr} {p pos : Pos} {τ : Type} [Enc τ] [OrdT τ]
theorem pv_sortedD {fa : Γ → Option (List τ)} (hu : X.A.units + 64 < cLine) (hg : Gl X "sorted") (hm : X.mg "sorted" = none) (ha : PV X sl .b a fa) (he : starEach [a] X.env = (false, eval a X.env) :: starEach [] X.env := by rfl) :
    PV X sl .f (.Call (.Name "sorted" p) [a] [] pos) (fun s => (fa s).bind fun x => sortedD x) :=
  pv_c1 (fun h => pe_callB (cr_sortD (τ := τ) hu) hg hm (by decide +kernel) (pa_cons h pa_nil he) (he := he)) (fun T H x u t Q hT r e q => by
    obtain ⟨hl, rfl⟩ := if_some e
    obtain ⟨l, xs, rfl, h1, h2⟩ := rb_l r
    refine ⟨l, xs, u, T, rfl, h1, h2, by rw [sizeLine_eq]; exact hl, fun ys p2 h3 hp => ?_⟩
    exact q _ _ (same_new hp) (fr_new hT hp h3)) ha
end
end PL
namespace PL
open PySem PySem.Spec L2 PyProof.Rows
open Enc (enc)
section
variable {Γ : Type} {X : Cx} {sl : Γ → Sl} {o e : Expr} {apos cpos : Pos}
/-- xs.count(k), ints -/
theorem pv_countL {fo : Γ → Option (List Int)} {fe : Γ → Option Int} (ho : PV X sl .b o fo) (he : PV X sl .b e fe)
    (hbase : attributeBase o "count" X.env (eval o X.env) = eval o X.env := by rfl)
    (hfew : ((backTo cpos (starEach [e] X.env)).all (fun x => !x.1) && (backToKw cpos (keywordEach [] X.env)).all (fun x => x.1.isSome)
      && decide ([e].length + ([] : List Keyword).length + (if ([] : List Keyword).isEmpty then 0 else 1) < 30)) = true := by rfl)
    (hline : (apos.endLine == cpos.line) = true := by rfl) (hs1 : starEach [e] X.env = (false, eval e X.env) :: starEach [] X.env := by rfl) (hplain : (backTo cpos (starEach [] X.env)).any (·.1) = false := by rfl) :
    PV X sl .a (.Call (.Attribute o "count" apos) [e] [] cpos) (fun s => (fo s).bind fun x => (fe s).bind fun y => some ((x.count y : Nat) : Int)) :=
  PE.imp (pe_bm PySem.F.plainAttrs_list PySem.F.slot_list_count PySem.F.type_list_count mt_lcount ho (pa_cons he pa_nil hs1) hbase hfew hline hs1 hplain) fun σ H Q ⟨γ, S0, S, t, E, hf, q⟩ => by
    obtain ⟨u, w, h1, h2, h3⟩ := bind2 hf
    cases h3
    refine ⟨γ, S0, S, u, E, h1, fun x H1 s1 r1 => ?_⟩
    obtain ⟨a, xs, rfl, g1, g2⟩ := rb_l r1
    refine ⟨.inl ⟨rfl, xs, g1⟩, γ, S0, S, w, E.same s1, h2, fun y H2 s2 r2 => ?_⟩
    obtain rfl := rpa_int g2
    obtain rfl := rb_i r2
    refine ⟨a, u, w, rfl, rfl, ?_, q _ _ (s1.trans s2) rfl⟩
    rcases g1 with g1 | g1
    · rcases g1 with g1 | ⟨o, g1⟩
      · exact .inl (.inl (s2 _ _ g1))
      · exact .inl (.inr ⟨o, s2 _ _ g1⟩)
    · exact .inr g1
end
section
variable {Γ Γ' ρ τ : Type} [Enc ρ] [Enc τ] {X : Cx} {sl : Γ → Sl} {sl' : Γ' → Sl} {kr : Kd} {f : Γ → Option (List τ)} {i : Nat} {x : Str} {p0 : Pos} {apos cpos pos : Pos} {e : Expr}
/-- x.extend(e), x owned, e a new list -/
theorem sv_ext (q : Γ → List τ) (set : Γ → List τ → Γ') (hq : ∀ g, (sl g)[i]? = some (some (.o, enc (q g)))) (h : ∀ g t, sl' (set g t) = (sl g).set i (some (.o, enc t))) (he : PV X sl .f e f) (hN : X.N[i]? = some x := by rfl)
    (hv : Vis X.env.scope x := by first | exact Or.inl rfl | exact Or.inr (Or.inl rfl) | exact Or.inr (Or.inr rfl)) (hd : (x == ("__debug__" : Str)) = false := by decide) (hcd : (x == ("__classdict__" : Str)) = false := by decide)
    (hbase : attributeBase (.Name x p0) "extend" X.env (eval (.Name x p0) X.env) = eval (.Name x p0) X.env := by rfl)
    (hfew : ((backTo cpos (starEach [e] X.env)).all (fun x => !x.1) && (backToKw cpos (keywordEach [] X.env)).all (fun x => x.1.isSome)
      && decide ([e].length + ([] : List Keyword).length + (if ([] : List Keyword).isEmpty then 0 else 1) < 30)) = true := by rfl)
    (hline : (apos.endLine == cpos.line) = true := by rfl) (hs1 : starEach [e] X.env = (false, eval e X.env) :: starEach [] X.env := by rfl) (hplain : (backTo cpos (starEach [] X.env)).any (·.1) = false := by rfl)
    (hs : swapsWith (.Call (.Attribute (.Name x p0) "extend" apos) [e] [] cpos) none pos.line X.env = pure false := by rfl) :
    SV (ρ := ρ) X sl sl' kr (.Expr (.Call (.Attribute (.Name x p0) "extend" apos) [e] [] cpos) pos) (fun g => (f g).bind fun t => (lCat (q g) t).bind fun l => some (.nx (set g l))) :=
  PS.imp (ps_expr (pe_bm PySem.F.plainAttrs_list PySem.F.slot_list_extend PySem.F.type_list_extend mt_extend (pe_var (i := i) hN hv hd hcd) (pa_cons he pa_nil hs1) hbase hfew hline hs1 hplain) hs) fun D σ H ⟨γ, S0, S, o, E, hf, p⟩ => by
    obtain ⟨t, e1, e2⟩ := bind1 hf
    obtain ⟨l, e3, e4⟩ := bind1 e2
    cases e4
    obtain ⟨hz, rfl⟩ := if_some e3
    obtain ⟨v, h1, a, rfl, h2, h3⟩ := E.at_ i _ _ (hq γ)
    rcases h3 with ⟨ds, xs, e1', e2', e3'⟩ | ⟨_, _, e1', _⟩
    · cases e1'
      refine ⟨_, h1, .inl ⟨rfl, xs, .inl (.inl e2')⟩, γ, S0, S, t, E, e1, fun y H1 s1 r1 => ?_⟩
      obtain ⟨b, rfl, hb, ⟨ds, zs, e5, e6, e7⟩ | ⟨_, _, e5, _⟩⟩ := r1
      · cases e5
        have E1 := E.same s1
        have hH1 := s1 _ _ e2'
        have hx : RpA X.K H1 (un S S0) ((q γ).map enc) xs := e3'.mv (.same s1)
        have hzs : RpA X.K H1 (un S S0) (t.map enc) zs := e7.mv (.less fun a z => .inl z)
        refine ⟨a, b, xs, zs, rfl, rfl, hH1, e6, by rw [map_len hx, map_len hzs]; exact hz, ?_⟩
        obtain ⟨mv, E2⟩ := E1.chg (u := .lst (xs ++ zs)) (d' := enc (q γ ++ t)) (hq γ) h1 h2 fun mv => .inl ⟨_, _, rfl, upd_same, by
          rw [List.map_append]
          exact (hx.mv mv.un).append (hzs.mv mv.un)⟩
        refine p _ _ S ?_ ((Mv.same s1).trans mv)
        rw [h]
        exact E2
      · cases e5
    · cases e1'
end
end PL
namespace PL
open PySem PySem.Spec L2
/-- a comprehension that takes no name from without: whatever lies around it -/
theorem blkOk_nf {N : List Str} {sc scope : Scope} {own : List (Str × Nat)} (h : blkC N (⟨.function, [], false, false, []⟩ : Scope) scope own = true) : BlkOk N sc scope own := by
  have b := blkOk_by h
  have f : ∀ y ∈ scope.names, y.2 = .free → sc.names.lookup y.1 = some .cell ∨ sc.names.lookup y.1 = some .free := fun y hy e => by
    rcases b.free y hy e with q | q
    · cases q
    · cases q
  exact ⟨b.kind, b.uniq, b.ix, f, b.own⟩
end PL

/-! PL24: min of a list of ordered data. -/
namespace PL
open PySem PySem.Spec L2 PyProof.Rows
open Enc (enc)
section
variable {τ : Type} [Enc τ] [OrdT τ]
def minL (x : τ) (xs : List τ) : τ := xs.foldl (fun a y => if OrdT.le a y = true then a else y) x
theorem minD_minL : ∀ (xs : List τ) (x : τ), PySem.W.minD (enc x) (xs.map enc) = enc (minL x xs)
  | [], x => rfl
  | y :: ys, x => by
    have e : PySem.W.dataLt (enc y) (enc x) = !OrdT.le x y := by
      have h := congrFun (congrFun (OrdT.eqle (τ := τ)) x) y
      rw [PySem.W.dataLe_eq] at h
      rw [← h]
      simp
    show PySem.W.minD (if PySem.W.dataLt (enc y) (enc x) = true then enc y else enc x) (ys.map enc) = enc (minL (if OrdT.le x y = true then x else y) ys)
    rw [e]
    cases OrdT.le x y with
    | true => exact minD_minL ys x
    | false => exact minD_minL ys y
theorem minL_mem : ∀ (xs : List τ) (x : τ), minL x xs ∈ x :: xs
  | [], x => List.mem_cons_self
  | y :: ys, x => by
    show minL (if OrdT.le x y = true then x else y) ys ∈ _
    split
    · rcases List.mem_cons.mp (minL_mem ys x) with h | h
      · rw [h]; exact List.mem_cons_self
      · exact List.mem_cons_of_mem _ (List.mem_cons_of_mem _ h)
    · exact List.mem_cons_of_mem _ (minL_mem ys y)
end
section
variable {X : Cx} {τ : Type} [Enc τ] [OrdT τ]
/-- min(xs) of ordered data -/
def rMinD (τ : Type) [Enc τ] [OrdT τ] (K : PySem.W.Frag) : List V → Hp → VK → Prop := fun vs H Q => ∃ (a : Addr) (ws : List V) (x : τ) (xs : List τ) (T : Ad), vs = [V.ref a] ∧ SqL K H a ws ∧ RpA K H T ((x :: xs).map enc) ws ∧
  ∀ v, Rp K H T (enc (minL x xs)) v → Q v H
theorem each_get {α β : Type} {R : α → β → Prop} : ∀ {as : List α} {bs : List β}, PySem.W.EachIs R as bs → ∀ (i : Nat) (a : α), as[i]? = some a → ∃ b, bs[i]? = some b ∧ R a b
  | _, _, .nil, i, a, h => by cases h
  | _, _, .cons r es, 0, a, h => by cases h; exact ⟨_, rfl, r⟩
  | _, _, .cons r es, i + 1, a, h => each_get es i a h
theorem depthAll_le2 {n : Nat} : ∀ {ds : List PyData}, (∀ d ∈ ds, d.depth ≤ n) → PyData.depthAll ds ≤ n := depthAll_le
theorem cr_minD (hc : X.calm = true) (hu : X.A.units + 64 < cLine) : CallR X (.builtin "min") (rMinD τ X.K) := by
  intro pins s σ H vs us Q I r h
  obtain ⟨a, ws, x, xs, T, rfl, hs, hr, q⟩ := h
  obtain ⟨its, rv, hl, hz⟩ := I.list hs
  rw [Vals.ref1 r]
  have e1 := each_of hr rv
  obtain ⟨as, ra⟩ := reads_rpA I _ _ _ hr rv (by
    have : ∀ l : List τ, PyData.hasDictAll (l.map enc) = false := fun l => by
      induction l with
      | nil => rfl
      | cons t ts ih => simp [PyData.hasDictAll, OrdT.nd t, ih]
    exact this _)
  have dep : PyData.depthAll ((x :: xs).map enc) ≤ 30 := depthAll_le fun d hd => by
    obtain ⟨t, _, rfl⟩ := List.mem_map.mp hd
    exact OrdT.dep t
  refine PySem.W.min_list_data (as := as) (x := enc x) (xs := xs.map enc) (I.ok.hd hc) hl.isList (by simpa using ra) ⟨fun d hd d' hd' => ?_, fun d hd => ?_⟩ (by have := dep; rw [List.map_cons] at this; omega) fun i v h' tk bs hv rm k => ?_
  · rw [← List.map_cons] at hd hd'
    obtain ⟨t, _, rfl⟩ := List.mem_map.mp hd
    obtain ⟨t', _, rfl⟩ := List.mem_map.mp hd'
    exact OrdT.ali t t'
  · rw [← List.map_cons] at hd
    obtain ⟨t, _, rfl⟩ := List.mem_map.mp hd
    rcases (OrdT.kind (τ := τ)) with c | c
    · obtain ⟨y, r, e⟩ := c t
      rw [e]
      nofun
    · exact (c t).1
  · have hv' : its[i]? = some v := by simpa using hv
    obtain ⟨t, ht, w, rw1, rp⟩ := each_get e1 i v hv'
    obtain ⟨bs2, rd⟩ := reads_rp I _ w v rp rw1 (OrdT.nd t)
    have rd' := PyProof.Rows.Reads.keeps k rd
    rw [minD_minL] at rm
    have e : enc t = enc (minL x xs) := PySem.W.alike_unique _ _ v _ _ (OrdT.ali t (minL x xs)) rd' rm
    rw [e] at rp
    exact ⟨w, H, I.kept k, rw1, q w rp⟩
def leastD [OrdT τ] : List τ → Option τ
  | [] => none
  | x :: xs => some (minL x xs)
end
section
variable {Γ : Type} {X : Cx} {sl : Γ → Sl} {a : Expr} {p pos : Pos} {τ : Type} [Enc τ] [OrdT τ]
theorem pv_minD {fa : Γ → Option (List τ)} (hu : X.A.units + 64 < cLine) (hg : Gl X "min") (hm : X.mg "min" = none) (ha : PV X sl .b a fa) (he : starEach [a] X.env = (false, eval a X.env) :: starEach [] X.env := by rfl) (hc : X.calm = true := by rfl) :
    PV X sl .a (.Call (.Name "min" p) [a] [] pos) (fun s => (fa s).bind fun x => leastD x) :=
  pv_c1 (fun h => pe_callB (cr_minD (τ := τ) hc hu) hg hm (by decide +kernel) (pa_cons h pa_nil he) (he := he)) (fun T H x u t Q hT r e q => by
    cases u with
    | nil => cases e
    | cons y ys =>
      cases e
      obtain ⟨l, xs, rfl, h1, h2⟩ := rb_l r
      exact ⟨l, xs, y, ys, T, rfl, h1, h2, fun v hv => q v H (Same.refl H) hv⟩) ha
end
end PL


set_option Elab.async false
set_option linter.all false
set_option maxRecDepth 100000
set_option maxHeartbeats 4000000
namespace LW
open PySem PySem.Spec L2 PL
open Enc (enc)
def topS (i : Nat) : Stmt := PySem.Challenge.pw_reckonedbyhand_k96_whole_signed_digits_a.main.body.getD i (.Pass ⟨0, 0, 0, 0⟩)
/-- what the top has left -/
structure Top (K : PySem.W.Frag) (mg : Str → Option Value) where
  a__law_draws : Addr
  d__law_draws : FuncData
  F__law_draws : Fun K "_law_draws" "_law_draws" (topS 44) a__law_draws d__law_draws
  b__law_draws : Binds K d__law_draws ["script"] []
  m__law_draws : mg "_law_draws" = some (.ref a__law_draws)
  a_lean_row : Addr
  d_lean_row : FuncData
  F_lean_row : Fun K "lean_row" "lean_row" (topS 22) a_lean_row d_lean_row
  b_lean_row : Binds K d_lean_row ["number"] []
  m_lean_row : mg "lean_row" = some (.ref a_lean_row)
  a_weight : Addr
  d_weight : FuncData
  F_weight : Fun K "weight" "weight" (topS 23) a_weight d_weight
  b_weight : Binds K d_weight ["number"] []
  m_weight : mg "weight" = some (.ref a_weight)
  a_digits_of_rows : Addr
  d_digits_of_rows : FuncData
  F_digits_of_rows : Fun K "digits_of" "digits_of" (topS 13) a_digits_of_rows d_digits_of_rows
  b_digits_of_rows : Binds K d_digits_of_rows ["number", "base"] []
  m_digits_of_rows : mg "digits_of_rows" = some (.ref a_digits_of_rows)
  a_pans : Addr
  d_pans : FuncData
  F_pans : Fun K "pans" "pans" (topS 18) a_pans d_pans
  b_pans : Binds K d_pans ["number"] []
  m_pans : mg "pans" = some (.ref a_pans)
  a_check_base : Addr
  d_check_base : FuncData
  F_check_base : Fun K "check_base" "check_base" (topS 11) a_check_base d_check_base
  b_check_base : Binds K d_check_base ["base"] []
  m_check_base : mg "check_base" = some (.ref a_check_base)
  a_row_of : Addr
  d_row_of : FuncData
  F_row_of : Fun K "row_of" "row_of" (topS 15) a_row_of d_row_of
  b_row_of : Binds K d_row_of ["number", "base"] []
  m_row_of : mg "row_of" = some (.ref a_row_of)
  a_check_number : Addr
  d_check_number : FuncData
  F_check_number : Fun K "check_number" "check_number" (topS 34) a_check_number d_check_number
  b_check_number : Binds K d_check_number ["number", "most"] []
  m_check_number : mg "check_number" = some (.ref a_check_number)
  a_digits_of_numerals : Addr
  d_digits_of_numerals : FuncData
  F_digits_of_numerals : Fun K "digits_of" "digits_of" (topS 30) a_digits_of_numerals d_digits_of_numerals
  b_digits_of_numerals : Binds K d_digits_of_numerals ["number", "base"] []
  m_digits_of_numerals : mg "digits_of_numerals" = some (.ref a_digits_of_numerals)
  a_binary_chain : Addr
  d_binary_chain : FuncData
  F_binary_chain : Fun K "binary_chain" "binary_chain" (topS 37) a_binary_chain d_binary_chain
  b_binary_chain : Binds K d_binary_chain ["number"] []
  m_binary_chain : mg "binary_chain" = some (.ref a_binary_chain)
  a__law_mix : Addr
  d__law_mix : FuncData
  F__law_mix : Fun K "_law_mix" "_law_mix" (topS 45) a__law_mix d__law_mix
  b__law_mix : Binds K d__law_mix ["draws", "k", "many"] []
  m__law_mix : mg "_law_mix" = some (.ref a__law_mix)
  a_shifts_of : Addr
  d_shifts_of : FuncData
  F_shifts_of : Fun K "shifts_of" "shifts_of" (topS 39) a_shifts_of d_shifts_of
  b_shifts_of : Binds K d_shifts_of ["number"] []
  m_shifts_of : mg "shifts_of" = some (.ref a_shifts_of)
  a_shifts : Addr
  d_shifts : FuncData
  F_shifts : Fun K "shifts" "shifts" (topS 40) a_shifts d_shifts
  b_shifts : Binds K d_shifts ["number"] []
  m_shifts : mg "shifts" = some (.ref a_shifts)
  a_check_places : Addr
  d_check_places : FuncData
  F_check_places : Fun K "check_places" "check_places" (topS 25) a_check_places d_check_places
  b_check_places : Binds K d_check_places ["places", "most"] []
  m_check_places : mg "check_places" = some (.ref a_check_places)
  a_forms_of : Addr
  d_forms_of : FuncData
  F_forms_of : Fun K "forms_of" "forms_of" (topS 26) a_forms_of d_forms_of
  b_forms_of : Binds K d_forms_of ["number", "places"] []
  m_forms_of : mg "forms_of" = some (.ref a_forms_of)
  a_forms : Addr
  d_forms : FuncData
  F_forms : Fun K "forms" "forms" (topS 27) a_forms d_forms
  b_forms : Binds K d_forms ["number", "places"] []
  m_forms : mg "forms" = some (.ref a_forms)
  a_leanest : Addr
  d_leanest : FuncData
  F_leanest : Fun K "leanest" "leanest" (topS 28) a_leanest d_leanest
  b_leanest : Binds K d_leanest ["number", "places"] []
  m_leanest : mg "leanest" = some (.ref a_leanest)
  a_is_lean : Addr
  d_is_lean : FuncData
  F_is_lean : Fun K "is_lean" "is_lean" (topS 24) a_is_lean d_is_lean
  b_is_lean : Binds K d_is_lean ["row"] []
  m_is_lean : mg "is_lean" = some (.ref a_is_lean)
  a_check_row : Addr
  d_check_row : FuncData
  F_check_row : Fun K "check_row" "check_row" (topS 12) a_check_row d_check_row
  b_check_row : Binds K d_check_row ["row", "base"] []
  m_check_row : mg "check_row" = some (.ref a_check_row)
  a_worth_of : Addr
  d_worth_of : FuncData
  F_worth_of : Fun K "worth_of" "worth_of" (topS 16) a_worth_of d_worth_of
  b_worth_of : Binds K d_worth_of ["row", "base"] []
  m_worth_of : mg "worth_of" = some (.ref a_worth_of)
  a_number_of : Addr
  d_number_of : FuncData
  F_number_of : Fun K "number_of" "number_of" (topS 17) a_number_of d_number_of
  b_number_of : Binds K d_number_of ["row", "base"] []
  m_number_of : mg "number_of" = some (.ref a_number_of)
  a_is_sum : Addr
  d_is_sum : FuncData
  F_is_sum : Fun K "is_sum" "is_sum" (topS 35) a_is_sum d_is_sum
  b_is_sum : Binds K d_is_sum ["told", "number"] []
  m_is_sum : mg "is_sum" = some (.ref a_is_sum)
  a_is_chain : Addr
  d_is_chain : FuncData
  F_is_chain : Fun K "is_chain" "is_chain" (topS 36) a_is_chain d_is_chain
  b_is_chain : Binds K d_is_chain ["told"] []
  m_is_chain : mg "is_chain" = some (.ref a_is_chain)
  a_doubled : Addr
  d_doubled : FuncData
  F_doubled : Fun K "doubled" "doubled" (topS 41) a_doubled d_doubled
  b_doubled : Binds K d_doubled ["number", "place"] []
  m_doubled : mg "doubled" = some (.ref a_doubled)
  a_by_shifts : Addr
  d_by_shifts : FuncData
  F_by_shifts : Fun K "by_shifts" "by_shifts" (topS 42) a_by_shifts d_by_shifts
  b_by_shifts : Binds K d_by_shifts ["number", "other"] []
  m_by_shifts : mg "by_shifts" = some (.ref a_by_shifts)
  a_law : Addr
  d_law : FuncData
  F_law : Fun K "law" "law" (topS 46) a_law d_law
  b_law : Binds K d_law ["script"] []
  m_law : mg "law" = some (.ref a_law)
  z_abs : mg "abs" = none
  z_all : mg "all" = none
  z_any : mg "any" = none
  z_enumerate : mg "enumerate" = none
  z_int : mg "int" = none
  z_len : mg "len" = none
  z_min : mg "min" = none
  z_range : mg "range" = none
  z_sorted : mg "sorted" = none
  z_sum : mg "sum" = none
  z_zip : mg "zip" = none
  c_LEAST_BASE : ∃ t : Tok, mg "LEAST_BASE" = some (.int (3) t)
  c_MOST_BASE : ∃ t : Tok, mg "MOST_BASE" = some (.int (35) t)
  c_MOST_BINARY : ∃ t : Tok, mg "MOST_BINARY" = some (.int (1000000) t)
  c_MOST_LISTED : ∃ t : Tok, mg "MOST_LISTED" = some (.int (10) t)
  c_MOST_PLACES : ∃ t : Tok, mg "MOST_PLACES" = some (.int (60) t)
  c_SIGNED : ∃ a : Addr, mg "SIGNED" = some (.ref a) ∧ KTp K a [V.int (-1), V.int (0), V.int (1)]
variable {P : Program} {w : World} {K : PySem.W.Frag} {mg : Str → Option Value} {base : Heap}
/-! ## _law_draws -/
structure S__law_draws where
  mk ::
  v_script : (List Int)
  v_draws : (List Int)
  v_k : Int
  v_rest : Int
  v_turn : Int
  v_mixed : Int
@[reducible] def sl__law_draws_0 (s : S__law_draws) : Sl := (fun s : S__law_draws => ([some (Mo.b, enc s.v_script), some (Mo.o, enc s.v_draws), some (Mo.a, enc s.v_k), some (Mo.a, enc s.v_rest), some (Mo.a, enc s.v_turn), none] : Sl)) s
@[reducible] def sl__law_draws_1 (s : S__law_draws) : Sl := (fun s : S__law_draws => ([some (Mo.b, enc s.v_script), some (Mo.o, enc s.v_draws), some (Mo.a, enc s.v_k), some (Mo.a, enc s.v_rest), none, none] : Sl)) s
@[reducible] def sl__law_draws_2 (s : S__law_draws) : Sl := (fun s : S__law_draws => ([some (Mo.b, enc s.v_script), some (Mo.o, enc s.v_draws), some (Mo.a, enc s.v_k), some (Mo.a, enc s.v_rest), none, some (Mo.a, enc s.v_mixed)] : Sl)) s
@[reducible] def sl__law_draws_3 (s : S__law_draws) : Sl := (fun s : S__law_draws => ([some (Mo.b, enc s.v_script), some (Mo.o, enc s.v_draws), some (Mo.a, enc s.v_k), none, none, none] : Sl)) s
@[reducible] def sl__law_draws_4 (s : S__law_draws) : Sl := (fun s : S__law_draws => ([some (Mo.b, enc s.v_script), some (Mo.o, enc s.v_draws), none, none, none, none] : Sl)) s
@[reducible] def sl__law_draws_5 (s : S__law_draws) : Sl := (fun s : S__law_draws => ([some (Mo.b, enc s.v_script), none, none, none, none, none] : Sl)) s
def lp__law_draws_0 (s : S__law_draws) : Option (Out S__law_draws (List Int)) :=
  seqO (((some s.v_rest).bind fun x297 => (some (0 : Int)).bind fun x298 => some (decide (x297 > x298))).bind fun x323 => if x323 = true then
  (seqO ((((some s.v_rest).bind fun x309 => some x309).bind fun x310 => (some (65536 : Int)).bind fun x311 => iMod x310 x311).bind fun x312 => (push s.v_draws x312).bind fun x313 => some (Out.nx (ρ := (List Int)) { s with v_draws := x313 })) fun s =>
  seqO (((some s.v_rest).bind fun x320 => (some (65536 : Int)).bind fun x321 => iDiv x320 x321).bind fun x322 => some (Out.nx (ρ := (List Int)) { s with v_rest := x322 })) fun s =>
  some (Out.nx (ρ := (List Int)) s))
  else some (Out.nx (ρ := (List Int)) s)) fun s =>
  some (Out.nx (ρ := (List Int)) { s with v_turn := 0 })
def lp__law_draws_1 (s : S__law_draws) : Option (Out S__law_draws (List Int)) :=
  seqO ((((some s.v_script).bind fun x198 => (some s.v_k).bind fun x199 => atI x198 x199).bind fun x200 => some (x200.natAbs : Int)).bind fun x201 => some (Out.nx (ρ := (List Int)) { s with v_rest := x201 })) fun s =>
  seqO (((some s.v_rest).bind fun x259 => ((some (10 : Int)).bind fun x257 => (some (18 : Int)).bind fun x258 => iPow x257 x258).bind fun x260 => some (decide (x259 ≥ x260))).bind fun x433 => if x433 = true then
  (seqO (((some (60 : Int)).bind fun x284 => rng1 x284).bind fun x324 => forO (fun (s : S__law_draws) (t : Int) => { s with v_turn := t }) lp__law_draws_0 x324 s) fun s =>
  some (Out.nx (ρ := (List Int)) s))
  else seqO ((((((some s.v_rest).bind fun x349 => (some (48271 : Int)).bind fun x350 => iMul x349 x350).bind fun x355 => (((some s.v_k).bind fun x351 => (some (1 : Int)).bind fun x352 => some (x351 + x352)).bind fun x353 => (some (69621 : Int)).bind fun x354 => iMul x353 x354).bind fun x356 => some (x355 + x356)).bind fun x357 => some x357).bind fun x358 => (some (2147483647 : Int)).bind fun x359 => iMod x358 x359).bind fun x360 => some (Out.nx (ρ := (List Int)) { s with v_mixed := x360 })) fun s =>
  seqO (((((((some s.v_mixed).bind fun x385 => (some (16807 : Int)).bind fun x386 => iMul x385 x386).bind fun x389 => ((some (11 : Int)).bind fun x387 => (some s.v_k).bind fun x388 => iMul x387 x388).bind fun x390 => some (x389 + x390)).bind fun x391 => (some (5 : Int)).bind fun x392 => some (x391 + x392)).bind fun x393 => some x393).bind fun x394 => (some (2147483629 : Int)).bind fun x395 => iMod x394 x395).bind fun x396 => some (Out.nx (ρ := (List Int)) { s with v_mixed := x396 })) fun s =>
  seqO ((((some s.v_mixed).bind fun x407 => some x407).bind fun x408 => (some (65536 : Int)).bind fun x409 => iMod x408 x409).bind fun x410 => (push s.v_draws x410).bind fun x411 => some (Out.nx (ρ := (List Int)) { s with v_draws := x411 })) fun s =>
  seqO (((((some s.v_mixed).bind fun x426 => (some (65536 : Int)).bind fun x427 => iDiv x426 x427).bind fun x428 => some x428).bind fun x429 => (some (32768 : Int)).bind fun x430 => iMod x429 x430).bind fun x431 => (push s.v_draws x431).bind fun x432 => some (Out.nx (ρ := (List Int)) { s with v_draws := x432 })) fun s =>
  some (Out.nx (ρ := (List Int)) { s with v_mixed := 0 })) fun s =>
  some (Out.nx (ρ := (List Int)) { s with v_k := 0, v_rest := 0 })
def fb__law_draws (s : S__law_draws) : Option (Out S__law_draws (List Int)) :=
  seqO ((some ([] : List Int)).bind fun x63 => some (Out.nx (ρ := (List Int)) { s with v_draws := x63 })) fun s =>
  seqO ((((some (63 : Int)).bind fun x187 => ((some s.v_script).bind fun x186 => some (x186.length : Int)).bind fun x188 => some (min x187 x188)).bind fun x189 => rng1 x189).bind fun x434 => forO (fun (s : S__law_draws) (t : Int) => { s with v_k := t }) lp__law_draws_1 x434 s) fun s =>
  seqO (some (Out.rt s.v_draws)) fun s =>
  some (Out.nx (ρ := (List Int)) s)
def F__law_draws (v_script : (List Int)) : Option (List Int) := outF none (fb__law_draws (⟨v_script, [], 0, 0, 0, 0⟩ : S__law_draws))
@[reducible] def sa__law_draws (a : (List Int) × Unit) : Sl := [some (Mo.b, enc a.1), none, none, none, none, none]
@[reducible] def in__law_draws (a : (List Int) × Unit) : S__law_draws := ⟨a.1, [], 0, 0, 0, 0⟩
abbrev N__law_draws : List Str := ["script", "draws", "k", "rest", "turn", "mixed"]
abbrev s__law_draws : Stmt := topS 44
theorem sc__law_draws : FnScope N__law_draws ["script"] (defScope s__law_draws) := ⟨rfl, rfl, rfl, by decide +kernel, rfl, by decide +kernel, by decide +kernel⟩
theorem ok__law_draws (T : Top K mg) : FnOk P w K mg base CX0 1 T.a__law_draws T.d__law_draws ["script"] (spF K N__law_draws 1 sa__law_draws .f (fun a => F__law_draws a.1)) := by
  have nd := sc__law_draws.nd
  refine fn_v (slE := sl__law_draws_5) (fb := fun a => fb__law_draws (in__law_draws a)) none T.F__law_draws sc__law_draws rfl (fun _ h => nomatch h) (.inr ⟨rfl, rfl⟩) (fun _ => rfl) fun cdv A outer s H E hr => ?_
  exact (bv_wk (sl'' := sl__law_draws_5) (h := in__law_draws) (fun _ => Wk.refl _)
  (bv_cons (sl'' := sl__law_draws_4) (sv_own (i := 1) (fun (s : S__law_draws) t => { s with v_draws := t }) (fun _ _ => rfl) nd (pv_lst (pal_nil (τ := Int))))
  (bv_cons (sl'' := sl__law_draws_4) (sv_for (sl := sl__law_draws_4) PassesOwn.never (piv_range1 (by rfl) T.z_range (PV.ab (pv_min2 (by rfl) T.z_min (PV.ab pv_int) (PV.ab (pv_len (by rfl) T.z_len (pv_varb (i := 0) (fun s : S__law_draws => s.v_script) (fun _ => rfl))))))) (gv_name (i := 2) (slb := sl__law_draws_3) (set := (fun (s : S__law_draws) (t : Int) => { s with v_k := t })) (fun _ _ => rfl) nd)
  (bv_cons (sl'' := sl__law_draws_1) (sv_set (i := 3) (fun (s : S__law_draws) t => { s with v_rest := t }) (fun _ _ => rfl) nd (pv_abs (by rfl) T.z_abs (PV.ab (pv_ix (pv_varb (i := 0) (fun s : S__law_draws => s.v_script) (fun _ => rfl)) (PV.ab (pv_var (i := 2) (fun s : S__law_draws => s.v_k) (fun _ => rfl)))))))
  (bv_cons (sl'' := sl__law_draws_1) (sv_if (pb_cmp c_ge (PV.ab (pv_var (i := 3) (fun s : S__law_draws => s.v_rest) (fun _ => rfl))) (PV.ab (pv_pow (PV.ab pv_int) (PV.ab pv_int))))
  (bv_cons (sl'' := sl__law_draws_1) (sv_for (sl := sl__law_draws_1) PassesOwn.never (piv_range1 (by rfl) T.z_range (PV.ab pv_int)) (gv_name (i := 4) (slb := sl__law_draws_0) (set := (fun (s : S__law_draws) (t : Int) => { s with v_turn := t })) (fun _ _ => rfl) nd)
  (bv_cons (sl'' := sl__law_draws_0) (sv_if (pb_cmp c_gt (PV.ab (pv_var (i := 3) (fun s : S__law_draws => s.v_rest) (fun _ => rfl))) (PV.ab pv_int))
  (bv_cons (sl'' := sl__law_draws_0) (sv_app (i := 1) (fun s : S__law_draws => s.v_draws) (fun s t => { s with v_draws := t }) (fun _ => rfl) (fun _ _ => rfl) (pv_mod (PV.ab (pv_int1 (by rfl) T.z_int (PV.ab (pv_var (i := 3) (fun s : S__law_draws => s.v_rest) (fun _ => rfl))))) (PV.ab pv_int)))
  (bv_cons (sl'' := sl__law_draws_0) (sv_set (i := 3) (fun (s : S__law_draws) t => { s with v_rest := t }) (fun _ _ => rfl) nd (pv_div (PV.ab (pv_var (i := 3) (fun s : S__law_draws => s.v_rest) (fun _ => rfl))) (PV.ab pv_int)))
  (bv_nil (h := fun (s : S__law_draws) => (s : S__law_draws)) (fun _ => (.s (.s (.s (.s (.s (.s .nil))))))))))
  (bv_nil (h := fun (s : S__law_draws) => (s : S__law_draws)) (fun _ => (.s (.s (.s (.s (.s (.s .nil)))))))))
  (bv_nil (h := fun (s : S__law_draws) => ({ s with v_turn := 0 } : S__law_draws)) (fun _ => (.s (.s (.s (.s (.d (.s .nil))))))))))
  (bv_nil (h := fun (s : S__law_draws) => (s : S__law_draws)) (fun _ => (.s (.s (.s (.s (.s (.s .nil)))))))))
  (bv_cons (sl'' := sl__law_draws_2) (sv_set (i := 5) (fun (s : S__law_draws) t => { s with v_mixed := t }) (fun _ _ => rfl) nd (pv_mod (PV.ab (pv_int1 (by rfl) T.z_int (PV.ab (pv_add (PV.ab (pv_mul (PV.ab (pv_var (i := 3) (fun s : S__law_draws => s.v_rest) (fun _ => rfl))) (PV.ab pv_int))) (PV.ab (pv_mul (PV.ab (pv_add (PV.ab (pv_var (i := 2) (fun s : S__law_draws => s.v_k) (fun _ => rfl))) (PV.ab pv_int))) (PV.ab pv_int))))))) (PV.ab pv_int)))
  (bv_cons (sl'' := sl__law_draws_2) (sv_set (i := 5) (fun (s : S__law_draws) t => { s with v_mixed := t }) (fun _ _ => rfl) nd (pv_mod (PV.ab (pv_int1 (by rfl) T.z_int (PV.ab (pv_add (PV.ab (pv_add (PV.ab (pv_mul (PV.ab (pv_var (i := 5) (fun s : S__law_draws => s.v_mixed) (fun _ => rfl))) (PV.ab pv_int))) (PV.ab (pv_mul (PV.ab pv_int) (PV.ab (pv_var (i := 2) (fun s : S__law_draws => s.v_k) (fun _ => rfl))))))) (PV.ab pv_int))))) (PV.ab pv_int)))
  (bv_cons (sl'' := sl__law_draws_2) (sv_app (i := 1) (fun s : S__law_draws => s.v_draws) (fun s t => { s with v_draws := t }) (fun _ => rfl) (fun _ _ => rfl) (pv_mod (PV.ab (pv_int1 (by rfl) T.z_int (PV.ab (pv_var (i := 5) (fun s : S__law_draws => s.v_mixed) (fun _ => rfl))))) (PV.ab pv_int)))
  (bv_cons (sl'' := sl__law_draws_2) (sv_app (i := 1) (fun s : S__law_draws => s.v_draws) (fun s t => { s with v_draws := t }) (fun _ => rfl) (fun _ _ => rfl) (pv_mod (PV.ab (pv_int1 (by rfl) T.z_int (PV.ab (pv_div (PV.ab (pv_var (i := 5) (fun s : S__law_draws => s.v_mixed) (fun _ => rfl))) (PV.ab pv_int))))) (PV.ab pv_int)))
  (bv_nil (h := fun (s : S__law_draws) => ({ s with v_mixed := 0 } : S__law_draws)) (fun _ => (.s (.s (.s (.s (.s (.d .nil)))))))))))))
  (bv_nil (h := fun (s : S__law_draws) => ({ s with v_k := 0, v_rest := 0 } : S__law_draws)) (fun _ => (.s (.s (.d (.d (.s (.s .nil)))))))))))
  (bv_cons (sl'' := sl__law_draws_5) (sv_reto (i := 1) (fun s : S__law_draws => s.v_draws) (fun _ => rfl))
  (bv_nil (sl := sl__law_draws_5) (h := fun s => s) (fun _ => Wk.refl _))))))
/-! ## lean_row -/
structure S_lean_row where
  mk ::
  v_number : Int
  v_found : (List Int)
  v_rest : Int
  v_digit : Int
@[reducible] def sl_lean_row_0 (s : S_lean_row) : Sl := (fun s : S_lean_row => ([some (Mo.a, enc s.v_number), some (Mo.o, enc s.v_found), some (Mo.a, enc s.v_rest), some (Mo.a, enc s.v_digit)] : Sl)) s
@[reducible] def sl_lean_row_1 (s : S_lean_row) : Sl := (fun s : S_lean_row => ([some (Mo.a, enc s.v_number), some (Mo.o, enc s.v_found), some (Mo.a, enc s.v_rest), none] : Sl)) s
@[reducible] def sl_lean_row_2 (s : S_lean_row) : Sl := (fun s : S_lean_row => ([some (Mo.a, enc s.v_number), none, none, none] : Sl)) s
@[reducible] def sl_lean_row_3 (s : S_lean_row) : Sl := (fun s : S_lean_row => ([some (Mo.a, enc s.v_number), some (Mo.o, enc s.v_found), none, none] : Sl)) s
def lp_lean_row_0 (s : S_lean_row) : Option (Out S_lean_row (List Int)) :=
  seqO ((some (0 : Int)).bind fun x88 => some (Out.nx (ρ := (List Int)) { s with v_digit := x88 })) fun s =>
  seqO ((((some s.v_rest).bind fun x102 => (some (2 : Int)).bind fun x103 => iMod x102 x103).bind fun x104 => (some (1 : Int)).bind fun x105 => some (decide (x104 = x105))).bind fun x121 => if x121 = true then
  (seqO (((some (2 : Int)).bind fun x118 => ((some s.v_rest).bind fun x116 => (some (4 : Int)).bind fun x117 => iMod x116 x117).bind fun x119 => some (x118 - x119)).bind fun x120 => some (Out.nx (ρ := (List Int)) { s with v_digit := x120 })) fun s =>
  some (Out.nx (ρ := (List Int)) s))
  else some (Out.nx (ρ := (List Int)) s)) fun s =>
  seqO ((some s.v_digit).bind fun x126 => (push s.v_found x126).bind fun x127 => some (Out.nx (ρ := (List Int)) { s with v_found := x127 })) fun s =>
  seqO ((((some s.v_rest).bind fun x138 => (some s.v_digit).bind fun x139 => some (x138 - x139)).bind fun x140 => (some (2 : Int)).bind fun x141 => iDiv x140 x141).bind fun x142 => some (Out.nx (ρ := (List Int)) { s with v_rest := x142 })) fun s =>
  some (Out.nx (ρ := (List Int)) { s with v_digit := 0 })
def lc_lean_row_1 (s : S_lean_row) : Option Bool :=
  ((some s.v_rest).bind fun x80 => (some (0 : Int)).bind fun x81 => some (!decide (x80 = x81))).bind fun x85 => if x85 = true then some true else ((some s.v_found).bind fun x82 => some (x82.length : Int)).bind fun x83 => (some (0 : Int)).bind fun x84 => some (decide (x83 = x84))
def fb_lean_row (s : S_lean_row) : Option (Out S_lean_row (List Int)) :=
  seqO ((some ([] : List Int)).bind fun x30 => some (Out.nx (ρ := (List Int)) { s with v_found := x30 })) fun s =>
  seqO ((some s.v_number).bind fun x33 => some (Out.nx (ρ := (List Int)) { s with v_rest := x33 })) fun s =>
  seqO (whileO lc_lean_row_1 lp_lean_row_0 FUEL s) fun s =>
  seqO (((some s.v_found).bind fun x147 => some x147.reverse).bind fun x148 => some (Out.rt x148)) fun s =>
  some (Out.nx (ρ := (List Int)) s)
def F_lean_row (v_number : Int) : Option (List Int) := outF none (fb_lean_row (⟨v_number, [], 0, 0⟩ : S_lean_row))
@[reducible] def sa_lean_row (a : Int × Unit) : Sl := [some (Mo.a, enc a.1), none, none, none]
@[reducible] def in_lean_row (a : Int × Unit) : S_lean_row := ⟨a.1, [], 0, 0⟩
abbrev N_lean_row : List Str := ["number", "found", "rest", "digit"]
abbrev s_lean_row : Stmt := topS 22
theorem sc_lean_row : FnScope N_lean_row ["number"] (defScope s_lean_row) := ⟨rfl, rfl, rfl, by decide +kernel, rfl, by decide +kernel, by decide +kernel⟩
theorem ok_lean_row (T : Top K mg) : FnOk P w K mg base CX0 1 T.a_lean_row T.d_lean_row ["number"] (spF K N_lean_row 1 sa_lean_row .f (fun a => F_lean_row a.1)) := by
  have nd := sc_lean_row.nd
  refine fn_v (slE := sl_lean_row_2) (fb := fun a => fb_lean_row (in_lean_row a)) none T.F_lean_row sc_lean_row rfl (fun _ h => nomatch h) (.inr ⟨rfl, rfl⟩) (fun _ => rfl) fun cdv A outer s H E hr => ?_
  exact (bv_wk (sl'' := sl_lean_row_2) (h := in_lean_row) (fun _ => Wk.refl _)
  (bv_cons (sl'' := sl_lean_row_3) (sv_own (i := 1) (fun (s : S_lean_row) t => { s with v_found := t }) (fun _ _ => rfl) nd (pv_lst (pal_nil (τ := Int))))
  (bv_cons (sl'' := sl_lean_row_1) (sv_set (i := 2) (fun (s : S_lean_row) t => { s with v_rest := t }) (fun _ _ => rfl) nd (pv_var (i := 0) (fun s : S_lean_row => s.v_number) (fun _ => rfl)))
  (bv_cons (sl'' := sl_lean_row_1) (sv_while (sl := sl_lean_row_1) FUEL PassesOwn.never (PBw.pb (pb_or (pb_cmp c_neS (PV.ab (pv_var (i := 2) (fun s : S_lean_row => s.v_rest) (fun _ => rfl))) (PV.ab pv_int)) (pb_or1 (pb_cmp c_eqS (PV.ab (pv_len (by rfl) T.z_len (pv_varo (i := 1) (fun s : S_lean_row => s.v_found) (fun _ => rfl)))) (PV.ab pv_int)))))
  (bv_cons (sl'' := sl_lean_row_0) (sv_set (i := 3) (fun (s : S_lean_row) t => { s with v_digit := t }) (fun _ _ => rfl) nd pv_int)
  (bv_cons (sl'' := sl_lean_row_0) (sv_if (pb_cmp c_eqS (PV.ab (pv_mod (PV.ab (pv_var (i := 2) (fun s : S_lean_row => s.v_rest) (fun _ => rfl))) (PV.ab pv_int))) (PV.ab pv_int))
  (bv_cons (sl'' := sl_lean_row_0) (sv_set (i := 3) (fun (s : S_lean_row) t => { s with v_digit := t }) (fun _ _ => rfl) nd (pv_sub (PV.ab pv_int) (PV.ab (pv_mod (PV.ab (pv_var (i := 2) (fun s : S_lean_row => s.v_rest) (fun _ => rfl))) (PV.ab pv_int)))))
  (bv_nil (h := fun (s : S_lean_row) => (s : S_lean_row)) (fun _ => (.s (.s (.s (.s .nil)))))))
  (bv_nil (h := fun (s : S_lean_row) => (s : S_lean_row)) (fun _ => (.s (.s (.s (.s .nil)))))))
  (bv_cons (sl'' := sl_lean_row_0) (sv_app (i := 1) (fun s : S_lean_row => s.v_found) (fun s t => { s with v_found := t }) (fun _ => rfl) (fun _ _ => rfl) (pv_var (i := 3) (fun s : S_lean_row => s.v_digit) (fun _ => rfl)))
  (bv_cons (sl'' := sl_lean_row_0) (sv_set (i := 2) (fun (s : S_lean_row) t => { s with v_rest := t }) (fun _ _ => rfl) nd (pv_div (PV.ab (pv_sub (PV.ab (pv_var (i := 2) (fun s : S_lean_row => s.v_rest) (fun _ => rfl))) (PV.ab (pv_var (i := 3) (fun s : S_lean_row => s.v_digit) (fun _ => rfl))))) (PV.ab pv_int)))
  (bv_nil (h := fun (s : S_lean_row) => ({ s with v_digit := 0 } : S_lean_row)) (fun _ => (.s (.s (.s (.d .nil)))))))))))
  (bv_cons (sl'' := sl_lean_row_2) (sv_retf (pv_rev (pv_varo (i := 1) (fun s : S_lean_row => s.v_found) (fun _ => rfl))))
  (bv_nil (sl := sl_lean_row_2) (h := fun s => s) (fun _ => Wk.refl _)))))))
/-! ## weight -/
structure S_weight where
  mk ::
  v_number : Int
@[reducible] def sl_weight_0 (s : S_weight) : Sl := (fun s : S_weight => ([some (Mo.a, enc s.v_number), none] : Sl)) s
def fb_weight (s : S_weight) : Option (Out S_weight Int) :=
  seqO ((((((some s.v_number).bind fun x28 => (some ()).bind fun x29 => some (x28, x29)).bind fun x30 => F_lean_row x30.1).bind fun x33 => (lNew x33).bind fun x34 => compO (fun s : (S_weight × Int) => (some s.2).bind fun x31 => (some (0 : Int)).bind fun x32 => some (!decide (x31 = x32))) (fun s : (S_weight × Int) => some s.2) (fun t : Int => ((s, t) : (S_weight × Int))) x34).bind fun x35 => some (x35.length : Int)).bind fun x36 => some (Out.rt x36)) fun s =>
  some (Out.nx (ρ := Int) s)
def F_weight (v_number : Int) : Option Int := outF none (fb_weight (⟨v_number⟩ : S_weight))
@[reducible] def sa_weight (a : Int × Unit) : Sl := [some (Mo.a, enc a.1), none]
@[reducible] def in_weight (a : Int × Unit) : S_weight := ⟨a.1⟩
abbrev N_weight : List Str := ["number", "digit"]
abbrev s_weight : Stmt := topS 23
theorem sc_weight : FnScope N_weight ["number"] (defScope s_weight) := ⟨rfl, rfl, rfl, by decide +kernel, rfl, by decide +kernel, by decide +kernel⟩
theorem ok_weight (T : Top K mg) : FnOk P w K mg base CX0 2 T.a_weight T.d_weight ["number"] (spF K N_weight 1 sa_weight .a (fun a => F_weight a.1)) := by
  have nd := sc_weight.nd
  refine fn_v (slE := sl_weight_0) (fb := fun a => fb_weight (in_weight a)) none T.F_weight sc_weight rfl (fun _ h => nomatch h) (.inl rfl) (fun _ => rfl) fun cdv A outer s H E hr => ?_
  exact (bv_wk (sl'' := sl_weight_0) (h := in_weight) (fun _ => Wk.refl _)
  (bv_cons (sl'' := sl_weight_0) (sv_ret (pv_len (by rfl) T.z_len (PV.fb (pv_lc (own := [("digit", 1)]) (js := [1]) (slb := (fun s : (S_weight × Int) => ([some (Mo.a, enc s.1.v_number), some (Mo.a, enc s.2)] : Sl))) (set := fun (g : S_weight) (t : Int) => ((g, t) : (S_weight × Int))) nd (IV.ab (piv_list (PV.fa (pv_callf (ok_lean_row T) (hr.mono (by decide)) (by rfl) T.m_lean_row T.F_lean_row.kp T.b_lean_row (av_a (pv_var (i := 0) (fun s : S_weight => s.v_number) (fun _ => rfl)) av_nil) (fun _ => ⟨3, rfl, rfl⟩))))) (blkOk_by (N := N_weight) (sc := defScope s_weight) (by decide +kernel)) (by decide) (fun _ _ _ _ _ => (gv_name (i := 1) (fun _ _ => rfl) nd)) (fun _ _ _ _ _ => pbs_one (pb_cmp c_neS (PV.ab (pv_var (i := 1) (fun s : (S_weight × Int) => s.2) (fun _ => rfl))) (PV.ab pv_int))) (fun _ _ _ _ _ => (pv_var (i := 1) (fun s : (S_weight × Int) => s.2) (fun _ => rfl)))))))
  (bv_nil (sl := sl_weight_0) (h := fun s => s) (fun _ => Wk.refl _))))
/-! ## digits_of_rows -/
structure S_digits_of_rows where
  mk ::
  v_number : Int
  v_base : Int
  v_found : (List Int)
  v_rest : Int
  v_digit : Int
@[reducible] def sl_digits_of_rows_0 (s : S_digits_of_rows) : Sl := (fun s : S_digits_of_rows => ([some (Mo.a, enc s.v_number), some (Mo.a, enc s.v_base), some (Mo.o, enc s.v_found), some (Mo.a, enc s.v_rest), some (Mo.a, enc s.v_digit)] : Sl)) s
@[reducible] def sl_digits_of_rows_1 (s : S_digits_of_rows) : Sl := (fun s : S_digits_of_rows => ([some (Mo.a, enc s.v_number), some (Mo.a, enc s.v_base), some (Mo.o, enc s.v_found), some (Mo.a, enc s.v_rest), none] : Sl)) s
@[reducible] def sl_digits_of_rows_2 (s : S_digits_of_rows) : Sl := (fun s : S_digits_of_rows => ([some (Mo.a, enc s.v_number), some (Mo.a, enc s.v_base), none, none, none] : Sl)) s
@[reducible] def sl_digits_of_rows_3 (s : S_digits_of_rows) : Sl := (fun s : S_digits_of_rows => ([some (Mo.a, enc s.v_number), some (Mo.a, enc s.v_base), some (Mo.o, enc s.v_found), none, none] : Sl)) s
def lp_digits_of_rows_0 (s : S_digits_of_rows) : Option (Out S_digits_of_rows (List Int)) :=
  seqO (((((some s.v_rest).bind fun x111 => ((some s.v_base).bind fun x109 => (some (2 : Int)).bind fun x110 => iDiv x109 x110).bind fun x112 => some (x111 + x112)).bind fun x113 => (some s.v_base).bind fun x114 => iMod x113 x114).bind fun x117 => ((some s.v_base).bind fun x115 => (some (2 : Int)).bind fun x116 => iDiv x115 x116).bind fun x118 => some (x117 - x118)).bind fun x119 => some (Out.nx (ρ := (List Int)) { s with v_digit := x119 })) fun s =>
  seqO ((some s.v_digit).bind fun x124 => (push s.v_found x124).bind fun x125 => some (Out.nx (ρ := (List Int)) { s with v_found := x125 })) fun s =>
  seqO ((((some s.v_rest).bind fun x136 => (some s.v_digit).bind fun x137 => some (x136 - x137)).bind fun x138 => (some s.v_base).bind fun x139 => iDiv x138 x139).bind fun x140 => some (Out.nx (ρ := (List Int)) { s with v_rest := x140 })) fun s =>
  some (Out.nx (ρ := (List Int)) { s with v_digit := 0 })
def lc_digits_of_rows_1 (s : S_digits_of_rows) : Option Bool :=
  ((some s.v_rest).bind fun x81 => (some (0 : Int)).bind fun x82 => some (!decide (x81 = x82))).bind fun x86 => if x86 = true then some true else ((some s.v_found).bind fun x83 => some (x83.length : Int)).bind fun x84 => (some (0 : Int)).bind fun x85 => some (decide (x84 = x85))
def fb_digits_of_rows (s : S_digits_of_rows) : Option (Out S_digits_of_rows (List Int)) :=
  seqO ((some ([] : List Int)).bind fun x29 => some (Out.nx (ρ := (List Int)) { s with v_found := x29 })) fun s =>
  seqO ((some s.v_number).bind fun x32 => some (Out.nx (ρ := (List Int)) { s with v_rest := x32 })) fun s =>
  seqO (whileO lc_digits_of_rows_1 lp_digits_of_rows_0 FUEL s) fun s =>
  seqO (some (Out.rt s.v_found)) fun s =>
  some (Out.nx (ρ := (List Int)) s)
def F_digits_of_rows (v_number : Int) (v_base : Int) : Option (List Int) := outF none (fb_digits_of_rows (⟨v_number, v_base, [], 0, 0⟩ : S_digits_of_rows))
@[reducible] def sa_digits_of_rows (a : Int × Int × Unit) : Sl := [some (Mo.a, enc a.1), some (Mo.a, enc a.2.1), none, none, none]
@[reducible] def in_digits_of_rows (a : Int × Int × Unit) : S_digits_of_rows := ⟨a.1, a.2.1, [], 0, 0⟩
abbrev N_digits_of_rows : List Str := ["number", "base", "found", "rest", "digit"]
abbrev s_digits_of_rows : Stmt := topS 13
theorem sc_digits_of_rows : FnScope N_digits_of_rows ["number", "base"] (defScope s_digits_of_rows) := ⟨rfl, rfl, rfl, by decide +kernel, rfl, by decide +kernel, by decide +kernel⟩
theorem ok_digits_of_rows (T : Top K mg) : FnOk P w K mg base CX0 1 T.a_digits_of_rows T.d_digits_of_rows ["number", "base"] (spF K N_digits_of_rows 2 sa_digits_of_rows .f (fun a => F_digits_of_rows a.1 a.2.1)) := by
  have nd := sc_digits_of_rows.nd
  refine fn_v (slE := sl_digits_of_rows_2) (fb := fun a => fb_digits_of_rows (in_digits_of_rows a)) none T.F_digits_of_rows sc_digits_of_rows rfl (fun _ h => nomatch h) (.inr ⟨rfl, rfl⟩) (fun _ => rfl) fun cdv A outer s H E hr => ?_
  exact (bv_wk (sl'' := sl_digits_of_rows_2) (h := in_digits_of_rows) (fun _ => Wk.refl _)
  (bv_cons (sl'' := sl_digits_of_rows_3) (sv_own (i := 2) (fun (s : S_digits_of_rows) t => { s with v_found := t }) (fun _ _ => rfl) nd (pv_lst (pal_nil (τ := Int))))
  (bv_cons (sl'' := sl_digits_of_rows_1) (sv_set (i := 3) (fun (s : S_digits_of_rows) t => { s with v_rest := t }) (fun _ _ => rfl) nd (pv_var (i := 0) (fun s : S_digits_of_rows => s.v_number) (fun _ => rfl)))
  (bv_cons (sl'' := sl_digits_of_rows_1) (sv_while (sl := sl_digits_of_rows_1) FUEL PassesOwn.never (PBw.pb (pb_or (pb_cmp c_neS (PV.ab (pv_var (i := 3) (fun s : S_digits_of_rows => s.v_rest) (fun _ => rfl))) (PV.ab pv_int)) (pb_or1 (pb_cmp c_eqS (PV.ab (pv_len (by rfl) T.z_len (pv_varo (i := 2) (fun s : S_digits_of_rows => s.v_found) (fun _ => rfl)))) (PV.ab pv_int)))))
  (bv_cons (sl'' := sl_digits_of_rows_0) (sv_set (i := 4) (fun (s : S_digits_of_rows) t => { s with v_digit := t }) (fun _ _ => rfl) nd (pv_sub (PV.ab (pv_mod (PV.ab (pv_add (PV.ab (pv_var (i := 3) (fun s : S_digits_of_rows => s.v_rest) (fun _ => rfl))) (PV.ab (pv_div (PV.ab (pv_var (i := 1) (fun s : S_digits_of_rows => s.v_base) (fun _ => rfl))) (PV.ab pv_int))))) (PV.ab (pv_var (i := 1) (fun s : S_digits_of_rows => s.v_base) (fun _ => rfl))))) (PV.ab (pv_div (PV.ab (pv_var (i := 1) (fun s : S_digits_of_rows => s.v_base) (fun _ => rfl))) (PV.ab pv_int)))))
  (bv_cons (sl'' := sl_digits_of_rows_0) (sv_app (i := 2) (fun s : S_digits_of_rows => s.v_found) (fun s t => { s with v_found := t }) (fun _ => rfl) (fun _ _ => rfl) (pv_var (i := 4) (fun s : S_digits_of_rows => s.v_digit) (fun _ => rfl)))
  (bv_cons (sl'' := sl_digits_of_rows_0) (sv_set (i := 3) (fun (s : S_digits_of_rows) t => { s with v_rest := t }) (fun _ _ => rfl) nd (pv_div (PV.ab (pv_sub (PV.ab (pv_var (i := 3) (fun s : S_digits_of_rows => s.v_rest) (fun _ => rfl))) (PV.ab (pv_var (i := 4) (fun s : S_digits_of_rows => s.v_digit) (fun _ => rfl))))) (PV.ab (pv_var (i := 1) (fun s : S_digits_of_rows => s.v_base) (fun _ => rfl)))))
  (bv_nil (h := fun (s : S_digits_of_rows) => ({ s with v_digit := 0 } : S_digits_of_rows)) (fun _ => (.s (.s (.s (.s (.d .nil)))))))))))
  (bv_cons (sl'' := sl_digits_of_rows_2) (sv_reto (i := 2) (fun s : S_digits_of_rows => s.v_found) (fun _ => rfl))
  (bv_nil (sl := sl_digits_of_rows_2) (h := fun s => s) (fun _ => Wk.refl _)))))))
/-! ## pans -/
structure S_pans where
  mk ::
  v_number : Int
  v_one : (List Int)
  v_two : (List Int)
  v_weight : Int
  v_digit : Int
@[reducible] def sl_pans_0 (s : S_pans) : Sl := (fun s : S_pans => ([some (Mo.a, enc s.v_number), none, none, none, none] : Sl)) s
@[reducible] def sl_pans_1 (s : S_pans) : Sl := (fun s : S_pans => ([some (Mo.a, enc s.v_number), some (Mo.o, enc s.v_one), some (Mo.o, enc s.v_two), some (Mo.a, enc s.v_weight), some (Mo.a, enc s.v_digit)] : Sl)) s
@[reducible] def sl_pans_2 (s : S_pans) : Sl := (fun s : S_pans => ([some (Mo.a, enc s.v_number), some (Mo.o, enc s.v_one), some (Mo.o, enc s.v_two), some (Mo.a, enc s.v_weight), none] : Sl)) s
@[reducible] def sl_pans_3 (s : S_pans) : Sl := (fun s : S_pans => ([some (Mo.a, enc s.v_number), some (Mo.a, enc s.v_one), some (Mo.a, enc s.v_two), some (Mo.a, enc s.v_weight), none] : Sl)) s
@[reducible] def sl_pans_4 (s : S_pans) : Sl := (fun s : S_pans => ([some (Mo.a, enc s.v_number), some (Mo.o, enc s.v_one), some (Mo.o, enc s.v_two), none, none] : Sl)) s
@[reducible] def sl_pans_5 (s : S_pans) : Sl := (fun s : S_pans => ([some (Mo.a, enc s.v_number), some (Mo.o, enc s.v_one), none, none, none] : Sl)) s
def lp_pans_0 (s : S_pans) : Option (Out S_pans (T2 (List Int) (List Int))) :=
  seqO (((some s.v_digit).bind fun x101 => (some (1 : Int)).bind fun x102 => some (decide (x101 = x102))).bind fun x127 => if x127 = true then
  (seqO ((some s.v_weight).bind fun x107 => (push s.v_one x107).bind fun x108 => some (Out.nx (ρ := (T2 (List Int) (List Int))) { s with v_one := x108 })) fun s =>
  some (Out.nx (ρ := (T2 (List Int) (List Int))) s))
  else seqO (((some s.v_digit).bind fun x118 => ((some (1 : Int)).bind fun x117 => some (-x117)).bind fun x119 => some (decide (x118 = x119))).bind fun x126 => if x126 = true then
  (seqO ((some s.v_weight).bind fun x124 => (push s.v_two x124).bind fun x125 => some (Out.nx (ρ := (T2 (List Int) (List Int))) { s with v_two := x125 })) fun s =>
  some (Out.nx (ρ := (T2 (List Int) (List Int))) s))
  else some (Out.nx (ρ := (T2 (List Int) (List Int))) s)) fun s =>
  some (Out.nx (ρ := (T2 (List Int) (List Int))) s)) fun s =>
  seqO (((some (3 : Int)).bind fun x134 => (some s.v_weight).bind fun x135 => iMul x134 x135).bind fun x136 => some (Out.nx (ρ := (T2 (List Int) (List Int))) { s with v_weight := x136 })) fun s =>
  some (Out.nx (ρ := (T2 (List Int) (List Int))) { s with v_digit := 0 })
def fb_pans (s : S_pans) : Option (Out S_pans (T2 (List Int) (List Int))) :=
  seqO (((some s.v_number).bind fun x34 => (some (0 : Int)).bind fun x35 => some (decide (x34 < x35))).bind fun x36 => if x36 = true then
  (seqO (none) fun s =>
  some (Out.nx (ρ := (T2 (List Int) (List Int))) s))
  else some (Out.nx (ρ := (T2 (List Int) (List Int))) s)) fun s =>
  seqO ((some ([] : List Int)).bind fun x39 => some (Out.nx (ρ := (T2 (List Int) (List Int))) { s with v_one := x39 })) fun s =>
  seqO ((some ([] : List Int)).bind fun x42 => some (Out.nx (ρ := (T2 (List Int) (List Int))) { s with v_two := x42 })) fun s =>
  seqO ((some (1 : Int)).bind fun x45 => some (Out.nx (ρ := (T2 (List Int) (List Int))) { s with v_weight := x45 })) fun s =>
  seqO ((((some s.v_number).bind fun x85 => ((some (3 : Int)).bind fun x86 => (some ()).bind fun x87 => some (x86, x87)).bind fun x88 => some (x85, x88)).bind fun x89 => F_digits_of_rows x89.1 x89.2.1).bind fun x137 => forO (fun (s : S_pans) (t : Int) => { s with v_digit := t }) lp_pans_0 x137 s) fun s =>
  seqO (((some s.v_one).bind fun x151 => (some s.v_two).bind fun x152 => some (T2.mk x151 x152)).bind fun x153 => some (Out.rt x153)) fun s =>
  some (Out.nx (ρ := (T2 (List Int) (List Int))) s)
def F_pans (v_number : Int) : Option (T2 (List Int) (List Int)) := outF none (fb_pans (⟨v_number, [], [], 0, 0⟩ : S_pans))
@[reducible] def sa_pans (a : Int × Unit) : Sl := [some (Mo.a, enc a.1), none, none, none, none]
@[reducible] def in_pans (a : Int × Unit) : S_pans := ⟨a.1, [], [], 0, 0⟩
abbrev N_pans : List Str := ["number", "one", "two", "weight", "digit"]
abbrev s_pans : Stmt := topS 18
theorem sc_pans : FnScope N_pans ["number"] (defScope s_pans) := ⟨rfl, rfl, rfl, by decide +kernel, rfl, by decide +kernel, by decide +kernel⟩
theorem ok_pans (T : Top K mg) : FnOk P w K mg base CX0 2 T.a_pans T.d_pans ["number"] (spF K N_pans 1 sa_pans .a (fun a => F_pans a.1)) := by
  have nd := sc_pans.nd
  refine fn_v (slE := sl_pans_0) (fb := fun a => fb_pans (in_pans a)) none T.F_pans sc_pans rfl (fun _ h => nomatch h) (.inl rfl) (fun _ => rfl) fun cdv A outer s H E hr => ?_
  exact (bv_wk (sl'' := sl_pans_0) (h := in_pans) (fun _ => Wk.refl _)
  (bv_cons (sl'' := sl_pans_0) (sv_if (pb_cmp c_lt (PV.ab (pv_var (i := 0) (fun s : S_pans => s.v_number) (fun _ => rfl))) (PV.ab pv_int))
  (bv_cons (sl'' := sl_pans_0) sv_never
  (bv_nil (sl := sl_pans_0) (h := fun s => s) (fun _ => Wk.refl _)))
  (bv_nil (h := fun (s : S_pans) => (s : S_pans)) (fun _ => (.s (.s (.s (.s (.s .nil))))))))
  (bv_cons (sl'' := sl_pans_5) (sv_own (i := 1) (fun (s : S_pans) t => { s with v_one := t }) (fun _ _ => rfl) nd (pv_lst (pal_nil (τ := Int))))
  (bv_cons (sl'' := sl_pans_4) (sv_own (i := 2) (fun (s : S_pans) t => { s with v_two := t }) (fun _ _ => rfl) nd (pv_lst (pal_nil (τ := Int))))
  (bv_cons (sl'' := sl_pans_2) (sv_set (i := 3) (fun (s : S_pans) t => { s with v_weight := t }) (fun _ _ => rfl) nd pv_int)
  (bv_cons (sl'' := sl_pans_2) (sv_for (sl := sl_pans_2) PassesOwn.never (piv_list (PV.fa (pv_callf (ok_digits_of_rows T) (hr.mono (by decide)) (by rfl) T.m_digits_of_rows T.F_digits_of_rows.kp T.b_digits_of_rows (av_a (pv_var (i := 0) (fun s : S_pans => s.v_number) (fun _ => rfl)) (av_a pv_int av_nil)) (fun _ => ⟨3, rfl, rfl⟩)))) (gv_name (i := 4) (slb := sl_pans_1) (set := (fun (s : S_pans) (t : Int) => { s with v_digit := t })) (fun _ _ => rfl) nd)
  (bv_cons (sl'' := sl_pans_1) (sv_if (pb_cmp c_eqS (PV.ab (pv_var (i := 4) (fun s : S_pans => s.v_digit) (fun _ => rfl))) (PV.ab pv_int))
  (bv_cons (sl'' := sl_pans_1) (sv_app (i := 1) (fun s : S_pans => s.v_one) (fun s t => { s with v_one := t }) (fun _ => rfl) (fun _ _ => rfl) (pv_var (i := 3) (fun s : S_pans => s.v_weight) (fun _ => rfl)))
  (bv_nil (h := fun (s : S_pans) => (s : S_pans)) (fun _ => (.s (.s (.s (.s (.s .nil))))))))
  (bv_cons (sl'' := sl_pans_1) (sv_if (pb_cmp c_eqS (PV.ab (pv_var (i := 4) (fun s : S_pans => s.v_digit) (fun _ => rfl))) (PV.ab (pv_neg (PV.ab pv_int))))
  (bv_cons (sl'' := sl_pans_1) (sv_app (i := 2) (fun s : S_pans => s.v_two) (fun s t => { s with v_two := t }) (fun _ => rfl) (fun _ _ => rfl) (pv_var (i := 3) (fun s : S_pans => s.v_weight) (fun _ => rfl)))
  (bv_nil (h := fun (s : S_pans) => (s : S_pans)) (fun _ => (.s (.s (.s (.s (.s .nil))))))))
  (bv_nil (h := fun (s : S_pans) => (s : S_pans)) (fun _ => (.s (.s (.s (.s (.s .nil))))))))
  (bv_nil (h := fun (s : S_pans) => (s : S_pans)) (fun _ => (.s (.s (.s (.s (.s .nil)))))))))
  (bv_cons (sl'' := sl_pans_1) (sv_set (i := 3) (fun (s : S_pans) t => { s with v_weight := t }) (fun _ _ => rfl) nd (pv_mul (PV.ab pv_int) (PV.ab (pv_var (i := 3) (fun s : S_pans => s.v_weight) (fun _ => rfl)))))
  (bv_nil (h := fun (s : S_pans) => ({ s with v_digit := 0 } : S_pans)) (fun _ => (.s (.s (.s (.s (.d .nil))))))))))
  (bv_wk (sl'' := sl_pans_3) (h := fun (s : S_pans) => s) (fun _ => (.s (.sh (.sh (.s (.s .nil)))))) (bv_cons (sl'' := sl_pans_0) (sv_ret (pv_tup2 (pv_var (i := 1) (fun s : S_pans => s.v_one) (fun _ => rfl)) (pv_var (i := 2) (fun s : S_pans => s.v_two) (fun _ => rfl))))
  (bv_nil (sl := sl_pans_0) (h := fun s => s) (fun _ => Wk.refl _))))))))))
/-! ## check_base -/
structure S_check_base where
  mk ::
  v_base : Int
@[reducible] def sl_check_base_0 (s : S_check_base) : Sl := (fun s : S_check_base => ([some (Mo.a, enc s.v_base)] : Sl)) s
def fb_check_base (s : S_check_base) : Option (Out S_check_base Unit) :=
  seqO (((((some (3 : Int)).bind fun x31 => (some s.v_base).bind fun x32 => (some (decide (x31 ≤ x32))).bind fun x34 => if x34 = true then (some (35 : Int)).bind fun x33 => some (decide (x32 ≤ x33)) else some false).bind fun x35 => some (!x35)).bind fun x40 => if x40 = true then some true else ((some s.v_base).bind fun x36 => (some (2 : Int)).bind fun x37 => iMod x36 x37).bind fun x38 => (some (0 : Int)).bind fun x39 => some (decide (x38 = x39))).bind fun x41 => if x41 = true then
  (seqO (none) fun s =>
  some (Out.nx (ρ := Unit) s))
  else some (Out.nx (ρ := Unit) s)) fun s =>
  some (Out.nx (ρ := Unit) s)
def F_check_base (v_base : Int) : Option Unit := outF (some ()) (fb_check_base (⟨v_base⟩ : S_check_base))
@[reducible] def sa_check_base (a : Int × Unit) : Sl := [some (Mo.a, enc a.1)]
@[reducible] def in_check_base (a : Int × Unit) : S_check_base := ⟨a.1⟩
abbrev N_check_base : List Str := ["base"]
abbrev s_check_base : Stmt := topS 11
theorem sc_check_base : FnScope N_check_base ["base"] (defScope s_check_base) := ⟨rfl, rfl, rfl, by decide +kernel, rfl, by decide +kernel, by decide +kernel⟩
theorem ok_check_base (T : Top K mg) : FnOk P w K mg base CX0 1 T.a_check_base T.d_check_base ["base"] (spF K N_check_base 1 sa_check_base .a (fun a => F_check_base a.1)) := by
  have nd := sc_check_base.nd
  refine fn_v (slE := sl_check_base_0) (fb := fun a => fb_check_base (in_check_base a)) (some ()) T.F_check_base sc_check_base rfl (fun _ h => by cases h; rfl) (.inl rfl) (fun _ => rfl) fun cdv A outer s H E hr => ?_
  exact (bv_wk (sl'' := sl_check_base_0) (h := in_check_base) (fun _ => Wk.refl _)
  (bv_cons (sl'' := sl_check_base_0) (sv_if (PBw.pb (pb_or (pb_not (pb_chain c_le c_le (PV.ab (pv_gint (i := 3) (by rfl) T.c_LEAST_BASE.choose_spec ⟨_, rfl⟩)) (PV.ab (pv_var (i := 0) (fun s : S_check_base => s.v_base) (fun _ => rfl))) (PV.ab (pv_gint (i := 35) (by rfl) T.c_MOST_BASE.choose_spec ⟨_, rfl⟩)))) (pb_or1 (pb_cmp c_eqS (PV.ab (pv_mod (PV.ab (pv_var (i := 0) (fun s : S_check_base => s.v_base) (fun _ => rfl))) (PV.ab pv_int))) (PV.ab pv_int)))))
  (bv_cons (sl'' := sl_check_base_0) sv_never
  (bv_nil (sl := sl_check_base_0) (h := fun s => s) (fun _ => Wk.refl _)))
  (bv_nil (h := fun (s : S_check_base) => (s : S_check_base)) (fun _ => (.s .nil))))
  (bv_nil (h := fun (s : S_check_base) => (s : S_check_base)) (fun _ => (.s .nil)))))
/-! ## row_of -/
structure S_row_of where
  mk ::
  v_number : Int
  v_base : Int
@[reducible] def sl_row_of_0 (s : S_row_of) : Sl := (fun s : S_row_of => ([some (Mo.a, enc s.v_number), some (Mo.a, enc s.v_base)] : Sl)) s
def fb_row_of (s : S_row_of) : Option (Out S_row_of (List Int)) :=
  seqO ((((some s.v_base).bind fun x17 => (some ()).bind fun x18 => some (x17, x18)).bind fun x19 => F_check_base x19.1).bind fun _ => some (Out.nx (ρ := (List Int)) s)) fun s =>
  seqO (((((some s.v_number).bind fun x34 => ((some s.v_base).bind fun x35 => (some ()).bind fun x36 => some (x35, x36)).bind fun x37 => some (x34, x37)).bind fun x38 => F_digits_of_rows x38.1 x38.2.1).bind fun x39 => some x39.reverse).bind fun x40 => some (Out.rt x40)) fun s =>
  some (Out.nx (ρ := (List Int)) s)
def F_row_of (v_number : Int) (v_base : Int) : Option (List Int) := outF none (fb_row_of (⟨v_number, v_base⟩ : S_row_of))
@[reducible] def sa_row_of (a : Int × Int × Unit) : Sl := [some (Mo.a, enc a.1), some (Mo.a, enc a.2.1)]
@[reducible] def in_row_of (a : Int × Int × Unit) : S_row_of := ⟨a.1, a.2.1⟩
abbrev N_row_of : List Str := ["number", "base"]
abbrev s_row_of : Stmt := topS 15
theorem sc_row_of : FnScope N_row_of ["number", "base"] (defScope s_row_of) := ⟨rfl, rfl, rfl, by decide +kernel, rfl, by decide +kernel, by decide +kernel⟩
theorem ok_row_of (T : Top K mg) : FnOk P w K mg base CX0 2 T.a_row_of T.d_row_of ["number", "base"] (spF K N_row_of 2 sa_row_of .f (fun a => F_row_of a.1 a.2.1)) := by
  have nd := sc_row_of.nd
  refine fn_v (slE := sl_row_of_0) (fb := fun a => fb_row_of (in_row_of a)) none T.F_row_of sc_row_of rfl (fun _ h => nomatch h) (.inr ⟨rfl, rfl⟩) (fun _ => rfl) fun cdv A outer s H E hr => ?_
  exact (bv_wk (sl'' := sl_row_of_0) (h := in_row_of) (fun _ => Wk.refl _)
  (bv_cons (sl'' := sl_row_of_0) (sv_expr (pv_calla (ok_check_base T) (hr.mono (by decide)) (by rfl) T.m_check_base T.F_check_base.kp T.b_check_base (av_a (pv_var (i := 1) (fun s : S_row_of => s.v_base) (fun _ => rfl)) av_nil) (fun _ => ⟨0, rfl, rfl⟩)))
  (bv_cons (sl'' := sl_row_of_0) (sv_retf (pv_rev (PV.fb (pv_callf (ok_digits_of_rows T) (hr.mono (by decide)) (by rfl) T.m_digits_of_rows T.F_digits_of_rows.kp T.b_digits_of_rows (av_a (pv_var (i := 0) (fun s : S_row_of => s.v_number) (fun _ => rfl)) (av_a (pv_var (i := 1) (fun s : S_row_of => s.v_base) (fun _ => rfl)) av_nil)) (fun _ => ⟨3, rfl, rfl⟩)))))
  (bv_nil (sl := sl_row_of_0) (h := fun s => s) (fun _ => Wk.refl _)))))
/-! ## check_number -/
structure S_check_number where
  mk ::
  v_number : Int
  v_most : Int
@[reducible] def sl_check_number_0 (s : S_check_number) : Sl := (fun s : S_check_number => ([some (Mo.a, enc s.v_number), some (Mo.a, enc s.v_most)] : Sl)) s
def fb_check_number (s : S_check_number) : Option (Out S_check_number Unit) :=
  seqO ((((some (1 : Int)).bind fun x16 => (some s.v_number).bind fun x17 => (some (decide (x16 ≤ x17))).bind fun x19 => if x19 = true then (some s.v_most).bind fun x18 => some (decide (x17 ≤ x18)) else some false).bind fun x20 => some (!x20)).bind fun x21 => if x21 = true then
  (seqO (none) fun s =>
  some (Out.nx (ρ := Unit) s))
  else some (Out.nx (ρ := Unit) s)) fun s =>
  some (Out.nx (ρ := Unit) s)
def F_check_number (v_number : Int) (v_most : Int) : Option Unit := outF (some ()) (fb_check_number (⟨v_number, v_most⟩ : S_check_number))
@[reducible] def sa_check_number (a : Int × Int × Unit) : Sl := [some (Mo.a, enc a.1), some (Mo.a, enc a.2.1)]
@[reducible] def in_check_number (a : Int × Int × Unit) : S_check_number := ⟨a.1, a.2.1⟩
abbrev N_check_number : List Str := ["number", "most"]
abbrev s_check_number : Stmt := topS 34
theorem sc_check_number : FnScope N_check_number ["number", "most"] (defScope s_check_number) := ⟨rfl, rfl, rfl, by decide +kernel, rfl, by decide +kernel, by decide +kernel⟩
theorem ok_check_number (T : Top K mg) : FnOk P w K mg base CX0 1 T.a_check_number T.d_check_number ["number", "most"] (spF K N_check_number 2 sa_check_number .a (fun a => F_check_number a.1 a.2.1)) := by
  have nd := sc_check_number.nd
  refine fn_v (slE := sl_check_number_0) (fb := fun a => fb_check_number (in_check_number a)) (some ()) T.F_check_number sc_check_number rfl (fun _ h => by cases h; rfl) (.inl rfl) (fun _ => rfl) fun cdv A outer s H E hr => ?_
  exact (bv_wk (sl'' := sl_check_number_0) (h := in_check_number) (fun _ => Wk.refl _)
  (bv_cons (sl'' := sl_check_number_0) (sv_if (pb_not (pb_chain c_le c_le (PV.ab pv_int) (PV.ab (pv_var (i := 0) (fun s : S_check_number => s.v_number) (fun _ => rfl))) (PV.ab (pv_var (i := 1) (fun s : S_check_number => s.v_most) (fun _ => rfl)))))
  (bv_cons (sl'' := sl_check_number_0) sv_never
  (bv_nil (sl := sl_check_number_0) (h := fun s => s) (fun _ => Wk.refl _)))
  (bv_nil (h := fun (s : S_check_number) => (s : S_check_number)) (fun _ => (.s (.s .nil)))))
  (bv_nil (h := fun (s : S_check_number) => (s : S_check_number)) (fun _ => (.s (.s .nil))))))
/-! ## digits_of_numerals -/
structure S_digits_of_numerals where
  mk ::
  v_number : Int
  v_base : Int
  v_found : (List Int)
  v_rest : Int
@[reducible] def sl_digits_of_numerals_0 (s : S_digits_of_numerals) : Sl := (fun s : S_digits_of_numerals => ([some (Mo.a, enc s.v_number), some (Mo.a, enc s.v_base), some (Mo.o, enc s.v_found), some (Mo.a, enc s.v_rest)] : Sl)) s
@[reducible] def sl_digits_of_numerals_1 (s : S_digits_of_numerals) : Sl := (fun s : S_digits_of_numerals => ([some (Mo.a, enc s.v_number), some (Mo.a, enc s.v_base), none, none] : Sl)) s
@[reducible] def sl_digits_of_numerals_2 (s : S_digits_of_numerals) : Sl := (fun s : S_digits_of_numerals => ([some (Mo.a, enc s.v_number), some (Mo.a, enc s.v_base), some (Mo.o, enc s.v_found), none] : Sl)) s
def lp_digits_of_numerals_0 (s : S_digits_of_numerals) : Option (Out S_digits_of_numerals (List Int)) :=
  seqO (((some s.v_rest).bind fun x90 => (some s.v_base).bind fun x91 => iMod x90 x91).bind fun x92 => (push s.v_found x92).bind fun x93 => some (Out.nx (ρ := (List Int)) { s with v_found := x93 })) fun s =>
  seqO (((some s.v_rest).bind fun x100 => (some s.v_base).bind fun x101 => iDiv x100 x101).bind fun x102 => some (Out.nx (ρ := (List Int)) { s with v_rest := x102 })) fun s =>
  some (Out.nx (ρ := (List Int)) s)
def lc_digits_of_numerals_1 (s : S_digits_of_numerals) : Option Bool :=
  (some s.v_rest).bind fun x80 => (some (0 : Int)).bind fun x81 => some (decide (x80 > x81))
def fb_digits_of_numerals (s : S_digits_of_numerals) : Option (Out S_digits_of_numerals (List Int)) :=
  seqO ((((some s.v_number).bind fun x48 => (some s.v_base).bind fun x49 => iMod x48 x49).bind fun x50 => (some ([] : List Int)).bind fun x51 => some (x50 :: x51)).bind fun x52 => some (Out.nx (ρ := (List Int)) { s with v_found := x52 })) fun s =>
  seqO (((some s.v_number).bind fun x59 => (some s.v_base).bind fun x60 => iDiv x59 x60).bind fun x61 => some (Out.nx (ρ := (List Int)) { s with v_rest := x61 })) fun s =>
  seqO (whileO lc_digits_of_numerals_1 lp_digits_of_numerals_0 FUEL s) fun s =>
  seqO (some (Out.rt s.v_found)) fun s =>
  some (Out.nx (ρ := (List Int)) s)
def F_digits_of_numerals (v_number : Int) (v_base : Int) : Option (List Int) := outF none (fb_digits_of_numerals (⟨v_number, v_base, [], 0⟩ : S_digits_of_numerals))
@[reducible] def sa_digits_of_numerals (a : Int × Int × Unit) : Sl := [some (Mo.a, enc a.1), some (Mo.a, enc a.2.1), none, none]
@[reducible] def in_digits_of_numerals (a : Int × Int × Unit) : S_digits_of_numerals := ⟨a.1, a.2.1, [], 0⟩
abbrev N_digits_of_numerals : List Str := ["number", "base", "found", "rest"]
abbrev s_digits_of_numerals : Stmt := topS 30
theorem sc_digits_of_numerals : FnScope N_digits_of_numerals ["number", "base"] (defScope s_digits_of_numerals) := ⟨rfl, rfl, rfl, by decide +kernel, rfl, by decide +kernel, by decide +kernel⟩
theorem ok_digits_of_numerals (T : Top K mg) : FnOk P w K mg base CX0 1 T.a_digits_of_numerals T.d_digits_of_numerals ["number", "base"] (spF K N_digits_of_numerals 2 sa_digits_of_numerals .f (fun a => F_digits_of_numerals a.1 a.2.1)) := by
  have nd := sc_digits_of_numerals.nd
  refine fn_v (slE := sl_digits_of_numerals_1) (fb := fun a => fb_digits_of_numerals (in_digits_of_numerals a)) none T.F_digits_of_numerals sc_digits_of_numerals rfl (fun _ h => nomatch h) (.inr ⟨rfl, rfl⟩) (fun _ => rfl) fun cdv A outer s H E hr => ?_
  exact (bv_wk (sl'' := sl_digits_of_numerals_1) (h := in_digits_of_numerals) (fun _ => Wk.refl _)
  (bv_cons (sl'' := sl_digits_of_numerals_2) (sv_own (i := 2) (fun (s : S_digits_of_numerals) t => { s with v_found := t }) (fun _ _ => rfl) nd (pv_lst (pal_cons (pv_mod (PV.ab (pv_var (i := 0) (fun s : S_digits_of_numerals => s.v_number) (fun _ => rfl))) (PV.ab (pv_var (i := 1) (fun s : S_digits_of_numerals => s.v_base) (fun _ => rfl)))) (pal_nil (τ := Int)))))
  (bv_cons (sl'' := sl_digits_of_numerals_0) (sv_set (i := 3) (fun (s : S_digits_of_numerals) t => { s with v_rest := t }) (fun _ _ => rfl) nd (pv_div (PV.ab (pv_var (i := 0) (fun s : S_digits_of_numerals => s.v_number) (fun _ => rfl))) (PV.ab (pv_var (i := 1) (fun s : S_digits_of_numerals => s.v_base) (fun _ => rfl)))))
  (bv_cons (sl'' := sl_digits_of_numerals_0) (sv_while (sl := sl_digits_of_numerals_0) FUEL PassesOwn.never (pb_cmp c_gt (PV.ab (pv_var (i := 3) (fun s : S_digits_of_numerals => s.v_rest) (fun _ => rfl))) (PV.ab pv_int))
  (bv_cons (sl'' := sl_digits_of_numerals_0) (sv_app (i := 2) (fun s : S_digits_of_numerals => s.v_found) (fun s t => { s with v_found := t }) (fun _ => rfl) (fun _ _ => rfl) (pv_mod (PV.ab (pv_var (i := 3) (fun s : S_digits_of_numerals => s.v_rest) (fun _ => rfl))) (PV.ab (pv_var (i := 1) (fun s : S_digits_of_numerals => s.v_base) (fun _ => rfl)))))
  (bv_cons (sl'' := sl_digits_of_numerals_0) (sv_set (i := 3) (fun (s : S_digits_of_numerals) t => { s with v_rest := t }) (fun _ _ => rfl) nd (pv_div (PV.ab (pv_var (i := 3) (fun s : S_digits_of_numerals => s.v_rest) (fun _ => rfl))) (PV.ab (pv_var (i := 1) (fun s : S_digits_of_numerals => s.v_base) (fun _ => rfl)))))
  (bv_nil (h := fun (s : S_digits_of_numerals) => (s : S_digits_of_numerals)) (fun _ => (.s (.s (.s (.s .nil)))))))))
  (bv_cons (sl'' := sl_digits_of_numerals_1) (sv_reto (i := 2) (fun s : S_digits_of_numerals => s.v_found) (fun _ => rfl))
  (bv_nil (sl := sl_digits_of_numerals_1) (h := fun s => s) (fun _ => Wk.refl _)))))))
/-! ## binary_chain -/
structure S_binary_chain where
  mk ::
  v_number : Int
  v_found : (List Int)
  v_digit : Int
@[reducible] def sl_binary_chain_0 (s : S_binary_chain) : Sl := (fun s : S_binary_chain => ([some (Mo.a, enc s.v_number), some (Mo.o, enc s.v_found), some (Mo.a, enc s.v_digit)] : Sl)) s
@[reducible] def sl_binary_chain_1 (s : S_binary_chain) : Sl := (fun s : S_binary_chain => ([some (Mo.a, enc s.v_number), some (Mo.o, enc s.v_found), none] : Sl)) s
@[reducible] def sl_binary_chain_2 (s : S_binary_chain) : Sl := (fun s : S_binary_chain => ([some (Mo.a, enc s.v_number), none, none] : Sl)) s
def lp_binary_chain_0 (s : S_binary_chain) : Option (Out S_binary_chain (List Int)) :=
  seqO (((some (2 : Int)).bind fun x152 => ((some s.v_found).bind fun x150 => ((some (1 : Int)).bind fun x149 => some (-x149)).bind fun x151 => atI x150 x151).bind fun x153 => iMul x152 x153).bind fun x154 => (push s.v_found x154).bind fun x155 => some (Out.nx (ρ := (List Int)) { s with v_found := x155 })) fun s =>
  seqO (((some s.v_digit).bind fun x167 => (some (1 : Int)).bind fun x168 => some (decide (x167 = x168))).bind fun x190 => if x190 = true then
  (seqO ((((some s.v_found).bind fun x184 => ((some (1 : Int)).bind fun x183 => some (-x183)).bind fun x185 => atI x184 x185).bind fun x186 => (some (1 : Int)).bind fun x187 => some (x186 + x187)).bind fun x188 => (push s.v_found x188).bind fun x189 => some (Out.nx (ρ := (List Int)) { s with v_found := x189 })) fun s =>
  some (Out.nx (ρ := (List Int)) s))
  else some (Out.nx (ρ := (List Int)) s)) fun s =>
  some (Out.nx (ρ := (List Int)) { s with v_digit := 0 })
def fb_binary_chain (s : S_binary_chain) : Option (Out S_binary_chain (List Int)) :=
  seqO ((((some s.v_number).bind fun x47 => ((some (1000000 : Int)).bind fun x48 => (some ()).bind fun x49 => some (x48, x49)).bind fun x50 => some (x47, x50)).bind fun x51 => F_check_number x51.1 x51.2.1).bind fun _ => some (Out.nx (ρ := (List Int)) s)) fun s =>
  seqO (((some (1 : Int)).bind fun x60 => (some ([] : List Int)).bind fun x61 => some (x60 :: x61)).bind fun x62 => some (Out.nx (ρ := (List Int)) { s with v_found := x62 })) fun s =>
  seqO ((((((some s.v_number).bind fun x125 => ((some (2 : Int)).bind fun x126 => (some ()).bind fun x127 => some (x126, x127)).bind fun x128 => some (x125, x128)).bind fun x129 => F_digits_of_numerals x129.1 x129.2.1).bind fun x130 => some x130.reverse).bind fun x132 => ((some (1 : Int)).bind fun x131 => some (some x131)).bind fun x133 => (some (none : Option Int)).bind fun x134 => some (cut x132 x133 x134)).bind fun x191 => forO (fun (s : S_binary_chain) (t : Int) => { s with v_digit := t }) lp_binary_chain_0 x191 s) fun s =>
  seqO (some (Out.rt s.v_found)) fun s =>
  some (Out.nx (ρ := (List Int)) s)
def F_binary_chain (v_number : Int) : Option (List Int) := outF none (fb_binary_chain (⟨v_number, [], 0⟩ : S_binary_chain))
@[reducible] def sa_binary_chain (a : Int × Unit) : Sl := [some (Mo.a, enc a.1), none, none]
@[reducible] def in_binary_chain (a : Int × Unit) : S_binary_chain := ⟨a.1, [], 0⟩
abbrev N_binary_chain : List Str := ["number", "found", "digit"]
abbrev s_binary_chain : Stmt := topS 37
theorem sc_binary_chain : FnScope N_binary_chain ["number"] (defScope s_binary_chain) := ⟨rfl, rfl, rfl, by decide +kernel, rfl, by decide +kernel, by decide +kernel⟩
theorem ok_binary_chain (T : Top K mg) : FnOk P w K mg base CX0 2 T.a_binary_chain T.d_binary_chain ["number"] (spF K N_binary_chain 1 sa_binary_chain .f (fun a => F_binary_chain a.1)) := by
  have nd := sc_binary_chain.nd
  refine fn_v (slE := sl_binary_chain_2) (fb := fun a => fb_binary_chain (in_binary_chain a)) none T.F_binary_chain sc_binary_chain rfl (fun _ h => nomatch h) (.inr ⟨rfl, rfl⟩) (fun _ => rfl) fun cdv A outer s H E hr => ?_
  exact (bv_wk (sl'' := sl_binary_chain_2) (h := in_binary_chain) (fun _ => Wk.refl _)
  (bv_cons (sl'' := sl_binary_chain_2) (sv_expr (pv_calla (ok_check_number T) (hr.mono (by decide)) (by rfl) T.m_check_number T.F_check_number.kp T.b_check_number (av_a (pv_var (i := 0) (fun s : S_binary_chain => s.v_number) (fun _ => rfl)) (av_a (pv_gint (i := 1000000) (by rfl) T.c_MOST_BINARY.choose_spec ⟨_, rfl⟩) av_nil)) (fun _ => ⟨0, rfl, rfl⟩)))
  (bv_cons (sl'' := sl_binary_chain_1) (sv_own (i := 1) (fun (s : S_binary_chain) t => { s with v_found := t }) (fun _ _ => rfl) nd (pv_lst (pal_cons pv_int (pal_nil (τ := Int)))))
  (bv_cons (sl'' := sl_binary_chain_1) (sv_for (sl := sl_binary_chain_1) PassesOwn.never (piv_list (PV.fa (pv_sl (PV.fb (pv_rev (PV.fb (pv_callf (ok_digits_of_numerals T) (hr.mono (by decide)) (by rfl) T.m_digits_of_numerals T.F_digits_of_numerals.kp T.b_digits_of_numerals (av_a (pv_var (i := 0) (fun s : S_binary_chain => s.v_number) (fun _ => rfl)) (av_a pv_int av_nil)) (fun _ => ⟨2, rfl, rfl⟩))))) (pvo_some (PV.ab pv_int)) pvo_none))) (gv_name (i := 2) (slb := sl_binary_chain_0) (set := (fun (s : S_binary_chain) (t : Int) => { s with v_digit := t })) (fun _ _ => rfl) nd)
  (bv_cons (sl'' := sl_binary_chain_0) (sv_app (i := 1) (fun s : S_binary_chain => s.v_found) (fun s t => { s with v_found := t }) (fun _ => rfl) (fun _ _ => rfl) (pv_mul (PV.ab pv_int) (PV.ab (pv_ix (pv_varo (i := 1) (fun s : S_binary_chain => s.v_found) (fun _ => rfl)) (PV.ab (pv_neg (PV.ab pv_int)))))))
  (bv_cons (sl'' := sl_binary_chain_0) (sv_if (pb_cmp c_eqS (PV.ab (pv_var (i := 2) (fun s : S_binary_chain => s.v_digit) (fun _ => rfl))) (PV.ab pv_int))
  (bv_cons (sl'' := sl_binary_chain_0) (sv_app (i := 1) (fun s : S_binary_chain => s.v_found) (fun s t => { s with v_found := t }) (fun _ => rfl) (fun _ _ => rfl) (pv_add (PV.ab (pv_ix (pv_varo (i := 1) (fun s : S_binary_chain => s.v_found) (fun _ => rfl)) (PV.ab (pv_neg (PV.ab pv_int))))) (PV.ab pv_int)))
  (bv_nil (h := fun (s : S_binary_chain) => (s : S_binary_chain)) (fun _ => (.s (.s (.s .nil))))))
  (bv_nil (h := fun (s : S_binary_chain) => (s : S_binary_chain)) (fun _ => (.s (.s (.s .nil))))))
  (bv_nil (h := fun (s : S_binary_chain) => ({ s with v_digit := 0 } : S_binary_chain)) (fun _ => (.s (.s (.d .nil))))))))
  (bv_cons (sl'' := sl_binary_chain_2) (sv_reto (i := 1) (fun s : S_binary_chain => s.v_found) (fun _ => rfl))
  (bv_nil (sl := sl_binary_chain_2) (h := fun s => s) (fun _ => Wk.refl _)))))))
/-! ## _law_mix -/
structure S__law_mix where
  mk ::
  v_draws : (List Int)
  v_k : Int
  v_many : Int
  v_cell : Int
@[reducible] def sl__law_mix_0 (s : S__law_mix) : Sl := (fun s : S__law_mix => ([some (Mo.b, enc s.v_draws), some (Mo.a, enc s.v_k), some (Mo.a, enc s.v_many), some (Mo.a, enc s.v_cell)] : Sl)) s
@[reducible] def sl__law_mix_1 (s : S__law_mix) : Sl := (fun s : S__law_mix => ([some (Mo.b, enc s.v_draws), some (Mo.a, enc s.v_k), some (Mo.a, enc s.v_many), none] : Sl)) s
def fb__law_mix (s : S__law_mix) : Option (Out S__law_mix Int) :=
  seqO ((some (0 : Int)).bind fun x34 => some (Out.nx (ρ := Int) { s with v_cell := x34 })) fun s =>
  seqO ((((some s.v_draws).bind fun x48 => some (x48.length : Int)).bind fun x49 => (some (0 : Int)).bind fun x50 => some (decide (x49 > x50))).bind fun x72 => if x72 = true then
  (seqO (((some s.v_draws).bind fun x69 => (((some s.v_k).bind fun x65 => some x65).bind fun x67 => ((some s.v_draws).bind fun x66 => some (x66.length : Int)).bind fun x68 => iMod x67 x68).bind fun x70 => atI x69 x70).bind fun x71 => some (Out.nx (ρ := Int) { s with v_cell := x71 })) fun s =>
  some (Out.nx (ρ := Int) s))
  else some (Out.nx (ρ := Int) s)) fun s =>
  seqO (((some s.v_k).bind fun x84 => ((some s.v_draws).bind fun x83 => some (x83.length : Int)).bind fun x85 => some (decide (x84 < x85))).bind fun x98 => if x98 = true then
  (seqO ((((some s.v_cell).bind fun x94 => some x94).bind fun x95 => (some s.v_many).bind fun x96 => iMod x95 x96).bind fun x97 => some (Out.rt x97)) fun s =>
  some (Out.nx (ρ := Int) s))
  else some (Out.nx (ρ := Int) s)) fun s =>
  seqO ((((((((some s.v_cell).bind fun x125 => (some (7919 : Int)).bind fun x126 => iMul x125 x126).bind fun x129 => ((some s.v_k).bind fun x127 => (some (104729 : Int)).bind fun x128 => iMul x127 x128).bind fun x130 => some (x129 + x130)).bind fun x131 => some x131).bind fun x132 => (some (3 : Int)).bind fun x133 => iDiv x132 x133).bind fun x134 => some x134).bind fun x135 => (some s.v_many).bind fun x136 => iMod x135 x136).bind fun x137 => some (Out.rt x137)) fun s =>
  some (Out.nx (ρ := Int) s)
def F__law_mix (v_draws : (List Int)) (v_k : Int) (v_many : Int) : Option Int := outF none (fb__law_mix (⟨v_draws, v_k, v_many, 0⟩ : S__law_mix))
@[reducible] def sa__law_mix (a : (List Int) × Int × Int × Unit) : Sl := [some (Mo.b, enc a.1), some (Mo.a, enc a.2.1), some (Mo.a, enc a.2.2.1), none]
@[reducible] def in__law_mix (a : (List Int) × Int × Int × Unit) : S__law_mix := ⟨a.1, a.2.1, a.2.2.1, 0⟩
abbrev N__law_mix : List Str := ["draws", "k", "many", "cell"]
abbrev s__law_mix : Stmt := topS 45
theorem sc__law_mix : FnScope N__law_mix ["draws", "k", "many"] (defScope s__law_mix) := ⟨rfl, rfl, rfl, by decide +kernel, rfl, by decide +kernel, by decide +kernel⟩
theorem ok__law_mix (T : Top K mg) : FnOk P w K mg base CX0 1 T.a__law_mix T.d__law_mix ["draws", "k", "many"] (spF K N__law_mix 3 sa__law_mix .a (fun a => F__law_mix a.1 a.2.1 a.2.2.1)) := by
  have nd := sc__law_mix.nd
  refine fn_v (slE := sl__law_mix_1) (fb := fun a => fb__law_mix (in__law_mix a)) none T.F__law_mix sc__law_mix rfl (fun _ h => nomatch h) (.inl rfl) (fun _ => rfl) fun cdv A outer s H E hr => ?_
  exact (bv_wk (sl'' := sl__law_mix_1) (h := in__law_mix) (fun _ => Wk.refl _)
  (bv_cons (sl'' := sl__law_mix_0) (sv_set (i := 3) (fun (s : S__law_mix) t => { s with v_cell := t }) (fun _ _ => rfl) nd pv_int)
  (bv_cons (sl'' := sl__law_mix_0) (sv_if (pb_cmp c_gt (PV.ab (pv_len (by rfl) T.z_len (pv_varb (i := 0) (fun s : S__law_mix => s.v_draws) (fun _ => rfl)))) (PV.ab pv_int))
  (bv_cons (sl'' := sl__law_mix_0) (sv_set (i := 3) (fun (s : S__law_mix) t => { s with v_cell := t }) (fun _ _ => rfl) nd (pv_ix (pv_varb (i := 0) (fun s : S__law_mix => s.v_draws) (fun _ => rfl)) (PV.ab (pv_mod (PV.ab (pv_int1 (by rfl) T.z_int (PV.ab (pv_var (i := 1) (fun s : S__law_mix => s.v_k) (fun _ => rfl))))) (PV.ab (pv_len (by rfl) T.z_len (pv_varb (i := 0) (fun s : S__law_mix => s.v_draws) (fun _ => rfl))))))))
  (bv_nil (h := fun (s : S__law_mix) => (s : S__law_mix)) (fun _ => (.s (.s (.s (.s .nil)))))))
  (bv_nil (h := fun (s : S__law_mix) => (s : S__law_mix)) (fun _ => (.s (.s (.s (.s .nil)))))))
  (bv_cons (sl'' := sl__law_mix_0) (sv_if (pb_cmp c_lt (PV.ab (pv_var (i := 1) (fun s : S__law_mix => s.v_k) (fun _ => rfl))) (PV.ab (pv_len (by rfl) T.z_len (pv_varb (i := 0) (fun s : S__law_mix => s.v_draws) (fun _ => rfl)))))
  (bv_cons (sl'' := sl__law_mix_0) (sv_ret (pv_mod (PV.ab (pv_int1 (by rfl) T.z_int (PV.ab (pv_var (i := 3) (fun s : S__law_mix => s.v_cell) (fun _ => rfl))))) (PV.ab (pv_var (i := 2) (fun s : S__law_mix => s.v_many) (fun _ => rfl)))))
  (bv_nil (sl := sl__law_mix_0) (h := fun s => s) (fun _ => Wk.refl _)))
  (bv_nil (h := fun (s : S__law_mix) => (s : S__law_mix)) (fun _ => (.s (.s (.s (.s .nil)))))))
  (bv_cons (sl'' := sl__law_mix_1) (sv_ret (pv_mod (PV.ab (pv_int1 (by rfl) T.z_int (PV.ab (pv_div (PV.ab (pv_int1 (by rfl) T.z_int (PV.ab (pv_add (PV.ab (pv_mul (PV.ab (pv_var (i := 3) (fun s : S__law_mix => s.v_cell) (fun _ => rfl))) (PV.ab pv_int))) (PV.ab (pv_mul (PV.ab (pv_var (i := 1) (fun s : S__law_mix => s.v_k) (fun _ => rfl))) (PV.ab pv_int))))))) (PV.ab pv_int))))) (PV.ab (pv_var (i := 2) (fun s : S__law_mix => s.v_many) (fun _ => rfl)))))
  (bv_nil (sl := sl__law_mix_1) (h := fun s => s) (fun _ => Wk.refl _)))))))
/-! ## shifts_of -/
structure S_shifts_of where
  mk ::
  v_number : Int
@[reducible] def sl_shifts_of_0 (s : S_shifts_of) : Sl := (fun s : S_shifts_of => ([some (Mo.a, enc s.v_number), none, none] : Sl)) s
def fb_shifts_of (s : S_shifts_of) : Option (Out S_shifts_of (List (T2 Int Int))) :=
  seqO (((((((some s.v_number).bind fun x37 => (some ()).bind fun x38 => some (x37, x38)).bind fun x39 => F_lean_row x39.1).bind fun x40 => some x40.reverse).bind fun x41 => some (x41.zipIdx.map fun q => T2.mk (q.2 : Int) q.1)).bind fun x46 => (lNew x46).bind fun x47 => compO (fun s : ((S_shifts_of × Int) × Int) => (some s.2).bind fun x42 => (some (0 : Int)).bind fun x43 => some (!decide (x42 = x43))) (fun s : ((S_shifts_of × Int) × Int) => (some s.1.2).bind fun x44 => (some s.2).bind fun x45 => some (T2.mk x44 x45)) (fun t : (T2 Int Int) => (((s, t.a), t.b) : ((S_shifts_of × Int) × Int))) x47).bind fun x48 => some (Out.rt x48)) fun s =>
  some (Out.nx (ρ := (List (T2 Int Int))) s)
def F_shifts_of (v_number : Int) : Option (List (T2 Int Int)) := outF none (fb_shifts_of (⟨v_number⟩ : S_shifts_of))
@[reducible] def sa_shifts_of (a : Int × Unit) : Sl := [some (Mo.a, enc a.1), none, none]
@[reducible] def in_shifts_of (a : Int × Unit) : S_shifts_of := ⟨a.1⟩
abbrev N_shifts_of : List Str := ["number", "place", "digit"]
abbrev s_shifts_of : Stmt := topS 39
theorem sc_shifts_of : FnScope N_shifts_of ["number"] (defScope s_shifts_of) := ⟨rfl, rfl, rfl, by decide +kernel, rfl, by decide +kernel, by decide +kernel⟩
theorem ok_shifts_of (T : Top K mg) : FnOk P w K mg base CX0 2 T.a_shifts_of T.d_shifts_of ["number"] (spF K N_shifts_of 1 sa_shifts_of .f (fun a => F_shifts_of a.1)) := by
  have nd := sc_shifts_of.nd
  refine fn_v (slE := sl_shifts_of_0) (fb := fun a => fb_shifts_of (in_shifts_of a)) none T.F_shifts_of sc_shifts_of rfl (fun _ h => nomatch h) (.inr ⟨rfl, rfl⟩) (fun _ => rfl) fun cdv A outer s H E hr => ?_
  exact (bv_wk (sl'' := sl_shifts_of_0) (h := in_shifts_of) (fun _ => Wk.refl _)
  (bv_cons (sl'' := sl_shifts_of_0) (sv_retf (pv_lc (own := [("place", 1), ("digit", 2)]) (js := [1, 2]) (slb := (fun s : ((S_shifts_of × Int) × Int) => ([some (Mo.a, enc s.1.1.v_number), some (Mo.a, enc s.1.2), some (Mo.a, enc s.2)] : Sl))) (set := fun (g : S_shifts_of) (t : (T2 Int Int)) => (((g, t.a), t.b) : ((S_shifts_of × Int) × Int))) nd (IV.ab (piv_enum (by rfl) T.z_enumerate (PV.fa (pv_rev (PV.fb (pv_callf (ok_lean_row T) (hr.mono (by decide)) (by rfl) T.m_lean_row T.F_lean_row.kp T.b_lean_row (av_a (pv_var (i := 0) (fun s : S_shifts_of => s.v_number) (fun _ => rfl)) av_nil) (fun _ => ⟨3, rfl, rfl⟩))))))) (blkOk_by (N := N_shifts_of) (sc := defScope s_shifts_of) (by decide +kernel)) (by decide) (fun _ _ _ _ _ => (gv_tup (fun t : (T2 Int Int) => [enc t.a, enc t.b]) (fun _ => rfl) (fun _ => rfl) (gvs_cons (p1 := fun t : (T2 Int Int) => t.a) (p2 := fun t : (T2 Int Int) => t) (gv_name (i := 1) (slb := (fun s : (S_shifts_of × Int) => ([some (Mo.a, enc s.1.v_number), some (Mo.a, enc s.2), none] : Sl))) (set := fun (g : S_shifts_of) (t : Int) => ((g, t) : (S_shifts_of × Int))) (fun _ _ => rfl) nd) (gvs_cons (p1 := fun t : (T2 Int Int) => t.b) (p2 := fun t : (T2 Int Int) => t) (gv_name (i := 2) (slb := (fun s : ((S_shifts_of × Int) × Int) => ([some (Mo.a, enc s.1.1.v_number), some (Mo.a, enc s.1.2), some (Mo.a, enc s.2)] : Sl))) (set := fun (g : (S_shifts_of × Int)) (t : Int) => ((g, t) : ((S_shifts_of × Int) × Int))) (fun _ _ => rfl) nd) gvs_nil)))) (fun _ _ _ _ _ => pbs_one (pb_cmp c_neS (PV.ab (pv_var (i := 2) (fun s : ((S_shifts_of × Int) × Int) => s.2) (fun _ => rfl))) (PV.ab pv_int))) (fun _ _ _ _ _ => (pv_tup2 (pv_var (i := 1) (fun s : ((S_shifts_of × Int) × Int) => s.1.2) (fun _ => rfl)) (pv_var (i := 2) (fun s : ((S_shifts_of × Int) × Int) => s.2) (fun _ => rfl))))))
  (bv_nil (sl := sl_shifts_of_0) (h := fun s => s) (fun _ => Wk.refl _))))
/-! ## shifts -/
structure S_shifts where
  mk ::
  v_number : Int
@[reducible] def sl_shifts_0 (s : S_shifts) : Sl := (fun s : S_shifts => ([some (Mo.a, enc s.v_number)] : Sl)) s
def fb_shifts (s : S_shifts) : Option (Out S_shifts (List (T2 Int Int))) :=
  seqO ((((some s.v_number).bind fun x20 => ((some (1000000 : Int)).bind fun x21 => (some ()).bind fun x22 => some (x21, x22)).bind fun x23 => some (x20, x23)).bind fun x24 => F_check_number x24.1 x24.2.1).bind fun _ => some (Out.nx (ρ := (List (T2 Int Int))) s)) fun s =>
  seqO ((((some s.v_number).bind fun x33 => (some ()).bind fun x34 => some (x33, x34)).bind fun x35 => F_shifts_of x35.1).bind fun x36 => some (Out.rt x36)) fun s =>
  some (Out.nx (ρ := (List (T2 Int Int))) s)
def F_shifts (v_number : Int) : Option (List (T2 Int Int)) := outF none (fb_shifts (⟨v_number⟩ : S_shifts))
@[reducible] def sa_shifts (a : Int × Unit) : Sl := [some (Mo.a, enc a.1)]
@[reducible] def in_shifts (a : Int × Unit) : S_shifts := ⟨a.1⟩
abbrev N_shifts : List Str := ["number"]
abbrev s_shifts : Stmt := topS 40
theorem sc_shifts : FnScope N_shifts ["number"] (defScope s_shifts) := ⟨rfl, rfl, rfl, by decide +kernel, rfl, by decide +kernel, by decide +kernel⟩
theorem ok_shifts (T : Top K mg) : FnOk P w K mg base CX0 3 T.a_shifts T.d_shifts ["number"] (spF K N_shifts 1 sa_shifts .f (fun a => F_shifts a.1)) := by
  have nd := sc_shifts.nd
  refine fn_v (slE := sl_shifts_0) (fb := fun a => fb_shifts (in_shifts a)) none T.F_shifts sc_shifts rfl (fun _ h => nomatch h) (.inr ⟨rfl, rfl⟩) (fun _ => rfl) fun cdv A outer s H E hr => ?_
  exact (bv_wk (sl'' := sl_shifts_0) (h := in_shifts) (fun _ => Wk.refl _)
  (bv_cons (sl'' := sl_shifts_0) (sv_expr (pv_calla (ok_check_number T) (hr.mono (by decide)) (by rfl) T.m_check_number T.F_check_number.kp T.b_check_number (av_a (pv_var (i := 0) (fun s : S_shifts => s.v_number) (fun _ => rfl)) (av_a (pv_gint (i := 1000000) (by rfl) T.c_MOST_BINARY.choose_spec ⟨_, rfl⟩) av_nil)) (fun _ => ⟨0, rfl, rfl⟩)))
  (bv_cons (sl'' := sl_shifts_0) (sv_retf (pv_callf (ok_shifts_of T) (hr.mono (by decide)) (by rfl) T.m_shifts_of T.F_shifts_of.kp T.b_shifts_of (av_a (pv_var (i := 0) (fun s : S_shifts => s.v_number) (fun _ => rfl)) av_nil) (fun _ => ⟨2, rfl, rfl⟩)))
  (bv_nil (sl := sl_shifts_0) (h := fun s => s) (fun _ => Wk.refl _)))))
/-! ## check_places -/
structure S_check_places where
  mk ::
  v_places : Int
  v_most : Int
@[reducible] def sl_check_places_0 (s : S_check_places) : Sl := (fun s : S_check_places => ([some (Mo.a, enc s.v_places), some (Mo.a, enc s.v_most)] : Sl)) s
def fb_check_places (s : S_check_places) : Option (Out S_check_places Unit) :=
  seqO ((((some (1 : Int)).bind fun x16 => (some s.v_places).bind fun x17 => (some (decide (x16 ≤ x17))).bind fun x19 => if x19 = true then (some s.v_most).bind fun x18 => some (decide (x17 ≤ x18)) else some false).bind fun x20 => some (!x20)).bind fun x21 => if x21 = true then
  (seqO (none) fun s =>
  some (Out.nx (ρ := Unit) s))
  else some (Out.nx (ρ := Unit) s)) fun s =>
  some (Out.nx (ρ := Unit) s)
def F_check_places (v_places : Int) (v_most : Int) : Option Unit := outF (some ()) (fb_check_places (⟨v_places, v_most⟩ : S_check_places))
@[reducible] def sa_check_places (a : Int × Int × Unit) : Sl := [some (Mo.a, enc a.1), some (Mo.a, enc a.2.1)]
@[reducible] def in_check_places (a : Int × Int × Unit) : S_check_places := ⟨a.1, a.2.1⟩
abbrev N_check_places : List Str := ["places", "most"]
abbrev s_check_places : Stmt := topS 25
theorem sc_check_places : FnScope N_check_places ["places", "most"] (defScope s_check_places) := ⟨rfl, rfl, rfl, by decide +kernel, rfl, by decide +kernel, by decide +kernel⟩
theorem ok_check_places (T : Top K mg) : FnOk P w K mg base CX0 1 T.a_check_places T.d_check_places ["places", "most"] (spF K N_check_places 2 sa_check_places .a (fun a => F_check_places a.1 a.2.1)) := by
  have nd := sc_check_places.nd
  refine fn_v (slE := sl_check_places_0) (fb := fun a => fb_check_places (in_check_places a)) (some ()) T.F_check_places sc_check_places rfl (fun _ h => by cases h; rfl) (.inl rfl) (fun _ => rfl) fun cdv A outer s H E hr => ?_
  exact (bv_wk (sl'' := sl_check_places_0) (h := in_check_places) (fun _ => Wk.refl _)
  (bv_cons (sl'' := sl_check_places_0) (sv_if (pb_not (pb_chain c_le c_le (PV.ab pv_int) (PV.ab (pv_var (i := 0) (fun s : S_check_places => s.v_places) (fun _ => rfl))) (PV.ab (pv_var (i := 1) (fun s : S_check_places => s.v_most) (fun _ => rfl)))))
  (bv_cons (sl'' := sl_check_places_0) sv_never
  (bv_nil (sl := sl_check_places_0) (h := fun s => s) (fun _ => Wk.refl _)))
  (bv_nil (h := fun (s : S_check_places) => (s : S_check_places)) (fun _ => (.s (.s .nil)))))
  (bv_nil (h := fun (s : S_check_places) => (s : S_check_places)) (fun _ => (.s (.s .nil))))))
/-! ## forms_of -/
structure S_forms_of where
  mk ::
  v_number : Int
  v_places : Int
  v_found : (List (List Int))
  v_digit : Int
@[reducible] def sl_forms_of_0 (s : S_forms_of) : Sl := (fun s : S_forms_of => ([some (Mo.a, enc s.v_number), some (Mo.a, enc s.v_places), none, none, none] : Sl)) s
@[reducible] def sl_forms_of_1 (s : S_forms_of) : Sl := (fun s : S_forms_of => ([some (Mo.a, enc s.v_number), some (Mo.a, enc s.v_places), some (Mo.o, enc s.v_found), some (Mo.a, enc s.v_digit), none] : Sl)) s
@[reducible] def sl_forms_of_2 (s : S_forms_of) : Sl := (fun s : S_forms_of => ([some (Mo.a, enc s.v_number), some (Mo.a, enc s.v_places), some (Mo.o, enc s.v_found), none, none] : Sl)) s
def lp_forms_of_0 (R : Int → Int → Option (List (List Int))) (s : S_forms_of) : Option (Out S_forms_of (List (List Int))) :=
  seqO (((((some s.v_number).bind fun x159 => (some s.v_digit).bind fun x160 => some (x159 - x160)).bind fun x161 => (some (2 : Int)).bind fun x162 => iMod x161 x162).bind fun x163 => (some (0 : Int)).bind fun x164 => some (decide (x163 = x164))).bind fun x225 => if x225 = true then
  (seqO (((((((some s.v_number).bind fun x205 => (some s.v_digit).bind fun x206 => some (x205 - x206)).bind fun x207 => (some (2 : Int)).bind fun x208 => iDiv x207 x208).bind fun x211 => (((some s.v_places).bind fun x209 => (some (1 : Int)).bind fun x210 => some (x209 - x210)).bind fun x212 => (some ()).bind fun x213 => some (x212, x213)).bind fun x214 => some (x211, x214)).bind fun x215 => R x215.1 x215.2.1).bind fun x221 => (lNew x221).bind fun x222 => compO (fun s : (S_forms_of × (List Int)) => some true) (fun s : (S_forms_of × (List Int)) => ((some s.2).bind fun x218 => ((some s.1.v_digit).bind fun x216 => (some ([] : List Int)).bind fun x217 => some (x216 :: x217)).bind fun x219 => some (x218 ++ x219)).bind fun x220 => lNew x220) (fun t : (List Int) => ((s, t) : (S_forms_of × (List Int)))) x222).bind fun x223 => (lCat s.v_found x223).bind fun x224 => some (Out.nx (ρ := (List (List Int))) { s with v_found := x224 })) fun s =>
  some (Out.nx (ρ := (List (List Int))) s))
  else some (Out.nx (ρ := (List (List Int))) s)) fun s =>
  some (Out.nx (ρ := (List (List Int))) { s with v_digit := 0 })
def fb_forms_of (R : Int → Int → Option (List (List Int))) (s : S_forms_of) : Option (Out S_forms_of (List (List Int))) :=
  seqO (((some s.v_places).bind fun x47 => (some (0 : Int)).bind fun x48 => some (decide (x47 = x48))).bind fun x67 => if x67 = true then
  (seqO ((((some s.v_number).bind fun x61 => (some (0 : Int)).bind fun x62 => some (decide (x61 = x62))).bind fun x65 => if x65 = true then (some ([] : List Int)).bind fun x63 => (some ([] : List (List Int))).bind fun x64 => some (x63 :: x64) else some ([] : List (List Int))).bind fun x66 => some (Out.rt x66)) fun s =>
  some (Out.nx (ρ := (List (List Int))) s))
  else some (Out.nx (ρ := (List (List Int))) s)) fun s =>
  seqO ((some ([] : List (List Int))).bind fun x70 => some (Out.nx (ρ := (List (List Int))) { s with v_found := x70 })) fun s =>
  seqO (((some (⟨(-1 : Int), (0 : Int), (1 : Int)⟩ : (T3 Int Int Int))).bind fun x126 => some [x126.a, x126.b, x126.c]).bind fun x226 => forO (fun (s : S_forms_of) (t : Int) => { s with v_digit := t }) (lp_forms_of_0 R) x226 s) fun s =>
  seqO (some (Out.rt s.v_found)) fun s =>
  some (Out.nx (ρ := (List (List Int))) s)
def F_forms_of : Nat → Int → Int → Option (List (List Int))
  | 0 => fun _ _ => none
  | n + 1 => fun v_number v_places => outF none (fb_forms_of (F_forms_of n) ⟨v_number, v_places, [], 0⟩)
@[reducible] def sa_forms_of (a : Int × Int × Unit) : Sl := [some (Mo.a, enc a.1), some (Mo.a, enc a.2.1), none, none, none]
@[reducible] def in_forms_of (a : Int × Int × Unit) : S_forms_of := ⟨a.1, a.2.1, [], 0⟩
abbrev N_forms_of : List Str := ["number", "places", "found", "digit", "row"]
abbrev s_forms_of : Stmt := topS 26
theorem sc_forms_of : FnScope N_forms_of ["number", "places"] (defScope s_forms_of) := ⟨rfl, rfl, rfl, by decide +kernel, rfl, by decide +kernel, by decide +kernel⟩
theorem ok_forms_of (T : Top K mg) : ∀ n : Nat, FnOk P w K mg base CX0 (0 + n) T.a_forms_of T.d_forms_of ["number", "places"] (spF K N_forms_of 2 sa_forms_of .f (fun a => F_forms_of n a.1 a.2.1))
  | 0 => fn_none
  | n + 1 => by
    have IH := ok_forms_of T n
    have nd := sc_forms_of.nd
    refine fn_v (slE := sl_forms_of_0) (fb := fun a => fb_forms_of (F_forms_of n) (in_forms_of a)) none T.F_forms_of sc_forms_of rfl (fun _ h => nomatch h) (.inr ⟨rfl, rfl⟩) (fun _ => rfl) fun cdv A outer s H E hr => ?_
    exact (bv_wk (sl'' := sl_forms_of_0) (h := in_forms_of) (fun _ => Wk.refl _)
  (bv_cons (sl'' := sl_forms_of_0) (sv_if (pb_cmp c_eqS (PV.ab (pv_var (i := 1) (fun s : S_forms_of => s.v_places) (fun _ => rfl))) (PV.ab pv_int))
  (bv_cons (sl'' := sl_forms_of_0) (sv_retf (pv_if (pb_cmp c_eqS (PV.ab (pv_var (i := 0) (fun s : S_forms_of => s.v_number) (fun _ => rfl))) (PV.ab pv_int)) (pv_lst (pal_cons (PV.fa (pv_lst (pal_nil (τ := Int)))) (pal_nil (τ := (List Int))))) (pv_lst (pal_nil (τ := (List Int))))))
  (bv_nil (sl := sl_forms_of_0) (h := fun s => s) (fun _ => Wk.refl _)))
  (bv_nil (h := fun (s : S_forms_of) => (s : S_forms_of)) (fun _ => (.s (.s (.s (.s (.s .nil))))))))
  (bv_cons (sl'' := sl_forms_of_2) (sv_own (i := 2) (fun (s : S_forms_of) t => { s with v_found := t }) (fun _ _ => rfl) nd (pv_lst (pal_nil (τ := (List Int)))))
  (bv_cons (sl'' := sl_forms_of_2) (sv_for (sl := sl_forms_of_2) PassesOwn.never (piv_tup (fun t : (T3 Int Int Int) => [t.a, t.b, t.c]) (fun _ => rfl) (PV.ab (pv_gtup (⟨(-1 : Int), (0 : Int), (1 : Int)⟩ : (T3 Int Int Int)) [enc (-1 : Int), enc (0 : Int), enc (1 : Int)] rfl (fun _ _ => ⟨_, _, rfl, rfl, ⟨_, _, rfl, rfl, ⟨_, _, rfl, rfl, rfl⟩⟩⟩) (by rfl) T.c_SIGNED.choose_spec.1 T.c_SIGNED.choose_spec.2))) (gv_name (i := 3) (slb := sl_forms_of_1) (set := (fun (s : S_forms_of) (t : Int) => { s with v_digit := t })) (fun _ _ => rfl) nd)
  (bv_cons (sl'' := sl_forms_of_1) (sv_if (pb_cmp c_eqS (PV.ab (pv_mod (PV.ab (pv_sub (PV.ab (pv_var (i := 0) (fun s : S_forms_of => s.v_number) (fun _ => rfl))) (PV.ab (pv_var (i := 3) (fun s : S_forms_of => s.v_digit) (fun _ => rfl))))) (PV.ab pv_int))) (PV.ab pv_int))
  (bv_cons (sl'' := sl_forms_of_1) (sv_ext (i := 2) (fun s : S_forms_of => s.v_found) (fun s t => { s with v_found := t }) (fun _ => rfl) (fun _ _ => rfl) (pv_lc (own := [("row", 4)]) (js := [4]) (slb := (fun s : (S_forms_of × (List Int)) => ([some (Mo.a, enc s.1.v_number), some (Mo.a, enc s.1.v_places), some (Mo.b, enc s.1.v_found), some (Mo.a, enc s.1.v_digit), some (Mo.a, enc s.2)] : Sl))) (set := fun (g : S_forms_of) (t : (List Int)) => ((g, t) : (S_forms_of × (List Int)))) nd (IV.ab (piv_list (PV.fa (pv_callf IH hr (by rfl) T.m_forms_of T.F_forms_of.kp T.b_forms_of (av_a (pv_div (PV.ab (pv_sub (PV.ab (pv_var (i := 0) (fun s : S_forms_of => s.v_number) (fun _ => rfl))) (PV.ab (pv_var (i := 3) (fun s : S_forms_of => s.v_digit) (fun _ => rfl))))) (PV.ab pv_int)) (av_a (pv_sub (PV.ab (pv_var (i := 1) (fun s : S_forms_of => s.v_places) (fun _ => rfl))) (PV.ab pv_int)) av_nil)) (fun _ => ⟨3, rfl, rfl⟩))))) (blkOk_by (N := N_forms_of) (sc := defScope s_forms_of) (by decide +kernel)) (by decide) (fun _ _ _ _ _ => (gv_name (i := 4) (fun _ _ => rfl) nd)) (fun _ _ _ _ _ => pbs_nil) (fun _ _ _ _ _ => (PV.fa (pv_lstS (pas_star (PV.ab (pv_var (i := 4) (fun s : (S_forms_of × (List Int)) => s.2) (fun _ => rfl))) (pas_cons (pv_var (i := 3) (fun s : (S_forms_of × (List Int)) => s.1.v_digit) (fun _ => rfl)) (pas_nil (τ := Int)))))))))
  (bv_nil (h := fun (s : S_forms_of) => (s : S_forms_of)) (fun _ => (.s (.s (.s (.s (.s .nil))))))))
  (bv_nil (h := fun (s : S_forms_of) => (s : S_forms_of)) (fun _ => (.s (.s (.s (.s (.s .nil))))))))
  (bv_nil (h := fun (s : S_forms_of) => ({ s with v_digit := 0 } : S_forms_of)) (fun _ => (.s (.s (.s (.d (.s .nil)))))))))
  (bv_cons (sl'' := sl_forms_of_0) (sv_reto (i := 2) (fun s : S_forms_of => s.v_found) (fun _ => rfl))
  (bv_nil (sl := sl_forms_of_0) (h := fun s => s) (fun _ => Wk.refl _)))))))
@[irreducible] def G_forms_of (v_number : Int) (v_places : Int) : Option (List (List Int)) := F_forms_of 40 v_number v_places
theorem okG_forms_of (T : Top K mg) : FnOk P w K mg base CX0 (0 + 40) T.a_forms_of T.d_forms_of ["number", "places"] (spF K N_forms_of 2 sa_forms_of .f (fun a => G_forms_of a.1 a.2.1)) := by
  have h := ok_forms_of (P := P) (w := w) (base := base) T 40
  have e : (fun a : Int × Int × Unit => F_forms_of 40 a.1 a.2.1) = (fun a : Int × Int × Unit => G_forms_of a.1 a.2.1) := by
    funext a
    rw [G_forms_of]
  rw [e] at h
  exact h
/-! ## forms -/
structure S_forms where
  mk ::
  v_number : Int
  v_places : Int
@[reducible] def sl_forms_0 (s : S_forms) : Sl := (fun s : S_forms => ([some (Mo.a, enc s.v_number), some (Mo.a, enc s.v_places)] : Sl)) s
def fb_forms (s : S_forms) : Option (Out S_forms (List (List Int))) :=
  seqO ((((some s.v_places).bind fun x23 => ((some (10 : Int)).bind fun x24 => (some ()).bind fun x25 => some (x24, x25)).bind fun x26 => some (x23, x26)).bind fun x27 => F_check_places x27.1 x27.2.1).bind fun _ => some (Out.nx (ρ := (List (List Int))) s)) fun s =>
  seqO (((((some s.v_number).bind fun x42 => ((some s.v_places).bind fun x43 => (some ()).bind fun x44 => some (x43, x44)).bind fun x45 => some (x42, x45)).bind fun x46 => G_forms_of x46.1 x46.2.1).bind fun x47 => sortedD x47).bind fun x48 => some (Out.rt x48)) fun s =>
  some (Out.nx (ρ := (List (List Int))) s)
def F_forms (v_number : Int) (v_places : Int) : Option (List (List Int)) := outF none (fb_forms (⟨v_number, v_places⟩ : S_forms))
@[reducible] def sa_forms (a : Int × Int × Unit) : Sl := [some (Mo.a, enc a.1), some (Mo.a, enc a.2.1)]
@[reducible] def in_forms (a : Int × Int × Unit) : S_forms := ⟨a.1, a.2.1⟩
abbrev N_forms : List Str := ["number", "places"]
abbrev s_forms : Stmt := topS 27
theorem sc_forms : FnScope N_forms ["number", "places"] (defScope s_forms) := ⟨rfl, rfl, rfl, by decide +kernel, rfl, by decide +kernel, by decide +kernel⟩
theorem ok_forms (T : Top K mg) : FnOk P w K mg base CX0 42 T.a_forms T.d_forms ["number", "places"] (spF K N_forms 2 sa_forms .f (fun a => F_forms a.1 a.2.1)) := by
  have nd := sc_forms.nd
  refine fn_v (slE := sl_forms_0) (fb := fun a => fb_forms (in_forms a)) none T.F_forms sc_forms rfl (fun _ h => nomatch h) (.inr ⟨rfl, rfl⟩) (fun _ => rfl) fun cdv A outer s H E hr => ?_
  exact (bv_wk (sl'' := sl_forms_0) (h := in_forms) (fun _ => Wk.refl _)
  (bv_cons (sl'' := sl_forms_0) (sv_expr (pv_calla (ok_check_places T) (hr.mono (by decide)) (by rfl) T.m_check_places T.F_check_places.kp T.b_check_places (av_a (pv_var (i := 1) (fun s : S_forms => s.v_places) (fun _ => rfl)) (av_a (pv_gint (i := 10) (by rfl) T.c_MOST_LISTED.choose_spec ⟨_, rfl⟩) av_nil)) (fun _ => ⟨0, rfl, rfl⟩)))
  (bv_cons (sl'' := sl_forms_0) (sv_retf (pv_sortedD (hu64 hr) (by rfl) T.z_sorted (PV.fb (pv_callf (okG_forms_of T) (hr.mono (by decide)) (by rfl) T.m_forms_of T.F_forms_of.kp T.b_forms_of (av_a (pv_var (i := 0) (fun s : S_forms => s.v_number) (fun _ => rfl)) (av_a (pv_var (i := 1) (fun s : S_forms => s.v_places) (fun _ => rfl)) av_nil)) (fun _ => ⟨3, rfl, rfl⟩)))))
  (bv_nil (sl := sl_forms_0) (h := fun s => s) (fun _ => Wk.refl _)))))
/-! ## leanest -/
structure S_leanest where
  mk ::
  v_number : Int
  v_places : Int
  v_least : Int
@[reducible] def sl_leanest_0 (s : S_leanest) : Sl := (fun s : S_leanest => ([some (Mo.a, enc s.v_number), some (Mo.a, enc s.v_places), none, none, none] : Sl)) s
@[reducible] def sl_leanest_1 (s : S_leanest) : Sl := (fun s : S_leanest => ([some (Mo.a, enc s.v_number), some (Mo.a, enc s.v_places), some (Mo.a, enc s.v_least), none, none] : Sl)) s
def fb_leanest (s : S_leanest) : Option (Out S_leanest (List (List Int))) :=
  seqO ((((some s.v_places).bind fun x35 => ((some (10 : Int)).bind fun x36 => (some ()).bind fun x37 => some (x36, x37)).bind fun x38 => some (x35, x38)).bind fun x39 => F_check_places x39.1 x39.2.1).bind fun _ => some (Out.nx (ρ := (List (List Int))) s)) fun s =>
  seqO ((((some s.v_number).bind fun x48 => (some ()).bind fun x49 => some (x48, x49)).bind fun x50 => F_weight x50.1).bind fun x51 => some (Out.nx (ρ := (List (List Int))) { s with v_least := x51 })) fun s =>
  seqO (((((some s.v_number).bind fun x82 => ((some s.v_places).bind fun x83 => (some ()).bind fun x84 => some (x83, x84)).bind fun x85 => some (x82, x85)).bind fun x86 => F_forms x86.1 x86.2.1).bind fun x94 => (lNew x94).bind fun x95 => compO (fun s : (S_leanest × (List Int)) => (((some s.2).bind fun x89 => (lNew x89).bind fun x90 => compO (fun s : ((S_leanest × (List Int)) × Int) => (some s.2).bind fun x87 => (some (0 : Int)).bind fun x88 => some (!decide (x87 = x88))) (fun s : ((S_leanest × (List Int)) × Int) => some s.2) (fun t : Int => ((s, t) : ((S_leanest × (List Int)) × Int))) x90).bind fun x91 => some (x91.length : Int)).bind fun x92 => (some s.1.v_least).bind fun x93 => some (decide (x92 = x93))) (fun s : (S_leanest × (List Int)) => some s.2) (fun t : (List Int) => ((s, t) : (S_leanest × (List Int)))) x95).bind fun x96 => some (Out.rt x96)) fun s =>
  some (Out.nx (ρ := (List (List Int))) s)
def F_leanest (v_number : Int) (v_places : Int) : Option (List (List Int)) := outF none (fb_leanest (⟨v_number, v_places, 0⟩ : S_leanest))
@[reducible] def sa_leanest (a : Int × Int × Unit) : Sl := [some (Mo.a, enc a.1), some (Mo.a, enc a.2.1), none, none, none]
@[reducible] def in_leanest (a : Int × Int × Unit) : S_leanest := ⟨a.1, a.2.1, 0⟩
abbrev N_leanest : List Str := ["number", "places", "least", "row", "digit"]
abbrev s_leanest : Stmt := topS 28
theorem sc_leanest : FnScope N_leanest ["number", "places"] (defScope s_leanest) := ⟨rfl, rfl, rfl, by decide +kernel, rfl, by decide +kernel, by decide +kernel⟩
theorem ok_leanest (T : Top K mg) : FnOk P w K mg base CX0 43 T.a_leanest T.d_leanest ["number", "places"] (spF K N_leanest 2 sa_leanest .f (fun a => F_leanest a.1 a.2.1)) := by
  have nd := sc_leanest.nd
  refine fn_v (slE := sl_leanest_0) (fb := fun a => fb_leanest (in_leanest a)) none T.F_leanest sc_leanest rfl (fun _ h => nomatch h) (.inr ⟨rfl, rfl⟩) (fun _ => rfl) fun cdv A outer s H E hr => ?_
  exact (bv_wk (sl'' := sl_leanest_0) (h := in_leanest) (fun _ => Wk.refl _)
  (bv_cons (sl'' := sl_leanest_0) (sv_expr (pv_calla (ok_check_places T) (hr.mono (by decide)) (by rfl) T.m_check_places T.F_check_places.kp T.b_check_places (av_a (pv_var (i := 1) (fun s : S_leanest => s.v_places) (fun _ => rfl)) (av_a (pv_gint (i := 10) (by rfl) T.c_MOST_LISTED.choose_spec ⟨_, rfl⟩) av_nil)) (fun _ => ⟨0, rfl, rfl⟩)))
  (bv_cons (sl'' := sl_leanest_1) (sv_set (i := 2) (fun (s : S_leanest) t => { s with v_least := t }) (fun _ _ => rfl) nd (pv_calla (ok_weight T) (hr.mono (by decide)) (by rfl) T.m_weight T.F_weight.kp T.b_weight (av_a (pv_var (i := 0) (fun s : S_leanest => s.v_number) (fun _ => rfl)) av_nil) (fun _ => ⟨1, rfl, rfl⟩)))
  (bv_cons (sl'' := sl_leanest_0) (sv_retf (pv_lc (own := [("row", 3)]) (js := [3]) (slb := (fun s : (S_leanest × (List Int)) => ([some (Mo.a, enc s.1.v_number), some (Mo.a, enc s.1.v_places), some (Mo.a, enc s.1.v_least), some (Mo.a, enc s.2), none] : Sl))) (set := fun (g : S_leanest) (t : (List Int)) => ((g, t) : (S_leanest × (List Int)))) nd (IV.ab (piv_list (PV.fa (pv_callf (ok_forms T) (hr.mono (by decide)) (by rfl) T.m_forms T.F_forms.kp T.b_forms (av_a (pv_var (i := 0) (fun s : S_leanest => s.v_number) (fun _ => rfl)) (av_a (pv_var (i := 1) (fun s : S_leanest => s.v_places) (fun _ => rfl)) av_nil)) (fun _ => ⟨0, rfl, rfl⟩))))) (blkOk_by (N := N_leanest) (sc := defScope s_leanest) (by decide +kernel)) (by decide) (fun _ _ _ _ _ => (gv_name (i := 3) (fun _ _ => rfl) nd)) (fun _ _ _ _ _ => pbs_one (pb_cmp c_eqS (PV.ab (pv_len (by rfl) T.z_len (PV.fb (pv_lc (own := [("digit", 4)]) (js := [4]) (slb := (fun s : ((S_leanest × (List Int)) × Int) => ([some (Mo.a, enc s.1.1.v_number), some (Mo.a, enc s.1.1.v_places), some (Mo.a, enc s.1.1.v_least), some (Mo.a, enc s.1.2), some (Mo.a, enc s.2)] : Sl))) (set := fun (g : (S_leanest × (List Int))) (t : Int) => ((g, t) : ((S_leanest × (List Int)) × Int))) nd (IV.ab (piv_list (pv_var (i := 3) (fun s : (S_leanest × (List Int)) => s.2) (fun _ => rfl)))) (blkOk_nf (N := N_leanest) (by decide +kernel)) (by decide) (fun _ _ _ _ _ => (gv_name (i := 4) (fun _ _ => rfl) nd)) (fun _ _ _ _ _ => pbs_one (pb_cmp c_neS (PV.ab (pv_var (i := 4) (fun s : ((S_leanest × (List Int)) × Int) => s.2) (fun _ => rfl))) (PV.ab pv_int))) (fun _ _ _ _ _ => (pv_var (i := 4) (fun s : ((S_leanest × (List Int)) × Int) => s.2) (fun _ => rfl))))))) (PV.ab (pv_var (i := 2) (fun s : (S_leanest × (List Int)) => s.1.v_least) (fun _ => rfl))))) (fun _ _ _ _ _ => (pv_var (i := 3) (fun s : (S_leanest × (List Int)) => s.2) (fun _ => rfl)))))
  (bv_nil (sl := sl_leanest_0) (h := fun s => s) (fun _ => Wk.refl _))))))
/-! ## is_lean -/
structure S_is_lean where
  mk ::
  v_row : (List Int)
@[reducible] def sl_is_lean_0 (s : S_is_lean) : Sl := (fun s : S_is_lean => ([some (Mo.b, enc s.v_row), none, none] : Sl)) s
def fb_is_lean (s : S_is_lean) : Option (Out S_is_lean Bool) :=
  seqO (((((some s.v_row).bind fun x79 => some (x79.length : Int)).bind fun x80 => (some (0 : Int)).bind fun x81 => some (decide (x80 = x81))).bind fun x97 => if x97 = true then some true else ((((some s.v_row).bind fun x84 => (lNew x84).bind fun x85 => compO (fun s : (S_is_lean × Int) => some true) (fun s : (S_is_lean × Int) => (some s.2).bind fun x82 => (some (⟨(-1 : Int), (0 : Int), (1 : Int)⟩ : (T3 Int Int Int))).bind fun x83 => some (decide (x82 ∈ [x83.a, x83.b, x83.c]))) (fun t : Int => ((s, t) : (S_is_lean × Int))) x85).bind fun x86 => some (x86.all id)).bind fun x87 => some (!x87)).bind fun x96 => if x96 = true then some true else (((some s.v_row).bind fun x88 => some (x88.length : Int)).bind fun x89 => (some (1 : Int)).bind fun x90 => some (decide (x89 > x90))).bind fun x95 => if x95 = true then ((some s.v_row).bind fun x91 => (some (0 : Int)).bind fun x92 => atI x91 x92).bind fun x93 => (some (0 : Int)).bind fun x94 => some (decide (x93 = x94)) else some false).bind fun x101 => if x101 = true then
  (seqO ((some false).bind fun x100 => some (Out.rt x100)) fun s =>
  some (Out.nx (ρ := Bool) s))
  else some (Out.nx (ρ := Bool) s)) fun s =>
  seqO (((((((some s.v_row).bind fun x140 => some (x140.length : Int)).bind fun x141 => (some (1 : Int)).bind fun x142 => some (x141 - x142)).bind fun x143 => rng1 x143).bind fun x155 => (lNew x155).bind fun x156 => compO (fun s : (S_is_lean × Int) => some true) (fun s : (S_is_lean × Int) => (((some s.1.v_row).bind fun x144 => (some s.2).bind fun x145 => atI x144 x145).bind fun x146 => (some (0 : Int)).bind fun x147 => some (decide (x146 = x147))).bind fun x154 => if x154 = true then some true else ((some s.1.v_row).bind fun x150 => ((some s.2).bind fun x148 => (some (1 : Int)).bind fun x149 => some (x148 + x149)).bind fun x151 => atI x150 x151).bind fun x152 => (some (0 : Int)).bind fun x153 => some (decide (x152 = x153))) (fun t : Int => ((s, t) : (S_is_lean × Int))) x156).bind fun x157 => some (x157.all id)).bind fun x158 => some (Out.rt x158)) fun s =>
  some (Out.nx (ρ := Bool) s)
def F_is_lean (v_row : (List Int)) : Option Bool := outF none (fb_is_lean (⟨v_row⟩ : S_is_lean))
@[reducible] def sa_is_lean (a : (List Int) × Unit) : Sl := [some (Mo.b, enc a.1), none, none]
@[reducible] def in_is_lean (a : (List Int) × Unit) : S_is_lean := ⟨a.1⟩
abbrev N_is_lean : List Str := ["row", "k", "digit"]
abbrev s_is_lean : Stmt := topS 24
theorem sc_is_lean : FnScope N_is_lean ["row"] (defScope s_is_lean) := ⟨rfl, rfl, rfl, by decide +kernel, rfl, by decide +kernel, by decide +kernel⟩
theorem ok_is_lean (T : Top K mg) : FnOk P w K mg base CX0 1 T.a_is_lean T.d_is_lean ["row"] (spF K N_is_lean 1 sa_is_lean .a (fun a => F_is_lean a.1)) := by
  have nd := sc_is_lean.nd
  refine fn_v (slE := sl_is_lean_0) (fb := fun a => fb_is_lean (in_is_lean a)) none T.F_is_lean sc_is_lean rfl (fun _ h => nomatch h) (.inl rfl) (fun _ => rfl) fun cdv A outer s H E hr => ?_
  exact (bv_wk (sl'' := sl_is_lean_0) (h := in_is_lean) (fun _ => Wk.refl _)
  (bv_cons (sl'' := sl_is_lean_0) (sv_if (PBw.pb (pb_or (pb_cmp c_eqS (PV.ab (pv_len (by rfl) T.z_len (pv_varb (i := 0) (fun s : S_is_lean => s.v_row) (fun _ => rfl)))) (PV.ab pv_int)) (pb_or (pb_not (pv_val (pv_all (by rfl) T.z_all (PV.fb (pv_lc (own := [("digit", 2)]) (js := [2]) (slb := (fun s : (S_is_lean × Int) => ([some (Mo.b, enc s.1.v_row), none, some (Mo.a, enc s.2)] : Sl))) (set := fun (g : S_is_lean) (t : Int) => ((g, t) : (S_is_lean × Int))) nd (piv_listb (pv_varb (i := 0) (fun s : S_is_lean => s.v_row) (fun _ => rfl))) (blkOk_by (N := N_is_lean) (sc := defScope s_is_lean) (by decide +kernel)) (by decide) (fun _ _ _ _ _ => (gv_name (i := 2) (fun _ _ => rfl) nd)) (fun _ _ _ _ _ => pbs_nil) (fun _ _ _ _ _ => (pv_cmp (c_inU (fun t : (T3 Int Int Int) => [t.a, t.b, t.c]) (fun _ => rfl)) (PV.ab (pv_var (i := 2) (fun s : (S_is_lean × Int) => s.2) (fun _ => rfl))) (PV.ab (pv_gtup (⟨(-1 : Int), (0 : Int), (1 : Int)⟩ : (T3 Int Int Int)) [enc (-1 : Int), enc (0 : Int), enc (1 : Int)] rfl (fun _ _ => ⟨_, _, rfl, rfl, ⟨_, _, rfl, rfl, ⟨_, _, rfl, rfl, rfl⟩⟩⟩) (by rfl) T.c_SIGNED.choose_spec.1 T.c_SIGNED.choose_spec.2))))))))) (pb_or1 (PBw.pb (pb_and (pb_cmp c_gt (PV.ab (pv_len (by rfl) T.z_len (pv_varb (i := 0) (fun s : S_is_lean => s.v_row) (fun _ => rfl)))) (PV.ab pv_int)) (pb_and1 (pb_cmp c_eqS (PV.ab (pv_ix (pv_varb (i := 0) (fun s : S_is_lean => s.v_row) (fun _ => rfl)) (PV.ab pv_int))) (PV.ab pv_int)))))))))
  (bv_cons (sl'' := sl_is_lean_0) (sv_ret pv_bool)
  (bv_nil (sl := sl_is_lean_0) (h := fun s => s) (fun _ => Wk.refl _)))
  (bv_nil (h := fun (s : S_is_lean) => (s : S_is_lean)) (fun _ => (.s (.s (.s .nil))))))
  (bv_cons (sl'' := sl_is_lean_0) (sv_ret (pv_all (by rfl) T.z_all (PV.fb (pv_lc (own := [("k", 1)]) (js := [1]) (slb := (fun s : (S_is_lean × Int) => ([some (Mo.b, enc s.1.v_row), some (Mo.a, enc s.2), none] : Sl))) (set := fun (g : S_is_lean) (t : Int) => ((g, t) : (S_is_lean × Int))) nd (IV.ab (piv_range1 (by rfl) T.z_range (PV.ab (pv_sub (PV.ab (pv_len (by rfl) T.z_len (pv_varb (i := 0) (fun s : S_is_lean => s.v_row) (fun _ => rfl)))) (PV.ab pv_int))))) (blkOk_by (N := N_is_lean) (sc := defScope s_is_lean) (by decide +kernel)) (by decide) (fun _ _ _ _ _ => (gv_name (i := 1) (fun _ _ => rfl) nd)) (fun _ _ _ _ _ => pbs_nil) (fun _ _ _ _ _ => (pv_or (pv_cmp c_eqS (PV.ab (pv_ix (pv_varb (i := 0) (fun s : (S_is_lean × Int) => s.1.v_row) (fun _ => rfl)) (PV.ab (pv_var (i := 1) (fun s : (S_is_lean × Int) => s.2) (fun _ => rfl))))) (PV.ab pv_int)) (pv_one (pv_cmp c_eqS (PV.ab (pv_ix (pv_varb (i := 0) (fun s : (S_is_lean × Int) => s.1.v_row) (fun _ => rfl)) (PV.ab (pv_add (PV.ab (pv_var (i := 1) (fun s : (S_is_lean × Int) => s.2) (fun _ => rfl))) (PV.ab pv_int))))) (PV.ab pv_int)))))))))
  (bv_nil (sl := sl_is_lean_0) (h := fun s => s) (fun _ => Wk.refl _)))))
/-! ## check_row -/
structure S_check_row where
  mk ::
  v_row : (List Int)
  v_base : Int
  v_k : Int
  v_digit : Int
@[reducible] def sl_check_row_0 (s : S_check_row) : Sl := (fun s : S_check_row => ([some (Mo.a, enc s.v_row), some (Mo.a, enc s.v_base), none, none] : Sl)) s
@[reducible] def sl_check_row_1 (s : S_check_row) : Sl := (fun s : S_check_row => ([some (Mo.a, enc s.v_row), some (Mo.a, enc s.v_base), some (Mo.a, enc s.v_k), some (Mo.a, enc s.v_digit)] : Sl)) s
@[reducible] def sl_check_row_2 (s : S_check_row) : Sl := (fun s : S_check_row => ([some (Mo.a, enc s.v_row), some (Mo.a, enc s.v_base), some (Mo.a, enc s.v_k), none] : Sl)) s
def lp_check_row_0 (s : S_check_row) : Option (Out S_check_row Unit) :=
  seqO ((((some s.v_digit).bind fun x69 => some (x69.natAbs : Int)).bind fun x72 => ((some s.v_base).bind fun x70 => (some (2 : Int)).bind fun x71 => iDiv x70 x71).bind fun x73 => some (decide (x72 > x73))).bind fun x74 => if x74 = true then
  (seqO (none) fun s =>
  some (Out.nx (ρ := Unit) s))
  else some (Out.nx (ρ := Unit) s)) fun s =>
  some (Out.nx (ρ := Unit) { s with v_k := 0, v_digit := 0 })
def fb_check_row (s : S_check_row) : Option (Out S_check_row Unit) :=
  seqO ((((some s.v_base).bind fun x22 => (some ()).bind fun x23 => some (x22, x23)).bind fun x24 => F_check_base x24.1).bind fun _ => some (Out.nx (ρ := Unit) s)) fun s =>
  seqO ((((some s.v_row).bind fun x31 => some (x31.length : Int)).bind fun x32 => (some (0 : Int)).bind fun x33 => some (decide (x32 = x33))).bind fun x34 => if x34 = true then
  (seqO (none) fun s =>
  some (Out.nx (ρ := Unit) s))
  else some (Out.nx (ρ := Unit) s)) fun s =>
  seqO ((((some s.v_row).bind fun x41 => some (x41.length : Int)).bind fun x42 => (some (60 : Int)).bind fun x43 => some (decide (x42 > x43))).bind fun x44 => if x44 = true then
  (seqO (none) fun s =>
  some (Out.nx (ρ := Unit) s))
  else some (Out.nx (ρ := Unit) s)) fun s =>
  seqO (((some s.v_row).bind fun x58 => some (x58.zipIdx.map fun q => T2.mk (q.2 : Int) q.1)).bind fun x75 => forO (fun (s : S_check_row) (t : (T2 Int Int)) => { ({ s with v_k := t.a }) with v_digit := t.b }) lp_check_row_0 x75 s) fun s =>
  some (Out.nx (ρ := Unit) s)
def F_check_row (v_row : (List Int)) (v_base : Int) : Option Unit := outF (some ()) (fb_check_row (⟨v_row, v_base, 0, 0⟩ : S_check_row))
@[reducible] def sa_check_row (a : (List Int) × Int × Unit) : Sl := [some (Mo.a, enc a.1), some (Mo.a, enc a.2.1), none, none]
@[reducible] def in_check_row (a : (List Int) × Int × Unit) : S_check_row := ⟨a.1, a.2.1, 0, 0⟩
abbrev N_check_row : List Str := ["row", "base", "k", "digit"]
abbrev s_check_row : Stmt := topS 12
theorem sc_check_row : FnScope N_check_row ["row", "base"] (defScope s_check_row) := ⟨rfl, rfl, rfl, by decide +kernel, rfl, by decide +kernel, by decide +kernel⟩
theorem ok_check_row (T : Top K mg) : FnOk P w K mg base CX0 2 T.a_check_row T.d_check_row ["row", "base"] (spF K N_check_row 2 sa_check_row .a (fun a => F_check_row a.1 a.2.1)) := by
  have nd := sc_check_row.nd
  refine fn_v (slE := sl_check_row_0) (fb := fun a => fb_check_row (in_check_row a)) (some ()) T.F_check_row sc_check_row rfl (fun _ h => by cases h; rfl) (.inl rfl) (fun _ => rfl) fun cdv A outer s H E hr => ?_
  exact (bv_wk (sl'' := sl_check_row_0) (h := in_check_row) (fun _ => Wk.refl _)
  (bv_cons (sl'' := sl_check_row_0) (sv_expr (pv_calla (ok_check_base T) (hr.mono (by decide)) (by rfl) T.m_check_base T.F_check_base.kp T.b_check_base (av_a (pv_var (i := 1) (fun s : S_check_row => s.v_base) (fun _ => rfl)) av_nil) (fun _ => ⟨0, rfl, rfl⟩)))
  (bv_cons (sl'' := sl_check_row_0) (sv_if (pb_cmp c_eqS (PV.ab (pv_len (by rfl) T.z_len (PV.ab (pv_var (i := 0) (fun s : S_check_row => s.v_row) (fun _ => rfl))))) (PV.ab pv_int))
  (bv_cons (sl'' := sl_check_row_0) sv_never
  (bv_nil (sl := sl_check_row_0) (h := fun s => s) (fun _ => Wk.refl _)))
  (bv_nil (h := fun (s : S_check_row) => (s : S_check_row)) (fun _ => (.s (.s (.s (.s .nil)))))))
  (bv_cons (sl'' := sl_check_row_0) (sv_if (pb_cmp c_gt (PV.ab (pv_len (by rfl) T.z_len (PV.ab (pv_var (i := 0) (fun s : S_check_row => s.v_row) (fun _ => rfl))))) (PV.ab (pv_gint (i := 60) (by rfl) T.c_MOST_PLACES.choose_spec ⟨_, rfl⟩)))
  (bv_cons (sl'' := sl_check_row_0) sv_never
  (bv_nil (sl := sl_check_row_0) (h := fun s => s) (fun _ => Wk.refl _)))
  (bv_nil (h := fun (s : S_check_row) => (s : S_check_row)) (fun _ => (.s (.s (.s (.s .nil)))))))
  (bv_cons (sl'' := sl_check_row_0) (sv_for (sl := sl_check_row_0) PassesOwn.never (piv_enum (by rfl) T.z_enumerate (pv_var (i := 0) (fun s : S_check_row => s.v_row) (fun _ => rfl))) (gv_tup (fun t : (T2 Int Int) => [enc t.a, enc t.b]) (fun _ => rfl) (fun _ => rfl) (gvs_cons (p1 := fun t : (T2 Int Int) => t.a) (p2 := fun t : (T2 Int Int) => t) (gv_name (i := 2) (slb := sl_check_row_2) (set := fun (s : S_check_row) (t : Int) => { s with v_k := t }) (fun _ _ => rfl) nd) (gvs_cons (p1 := fun t : (T2 Int Int) => t.b) (p2 := fun t : (T2 Int Int) => t) (gv_name (i := 3) (slb := sl_check_row_1) (set := fun (s : S_check_row) (t : Int) => { s with v_digit := t }) (fun _ _ => rfl) nd) gvs_nil)))
  (bv_cons (sl'' := sl_check_row_1) (sv_if (pb_cmp c_gt (PV.ab (pv_abs (by rfl) T.z_abs (PV.ab (pv_var (i := 3) (fun s : S_check_row => s.v_digit) (fun _ => rfl))))) (PV.ab (pv_div (PV.ab (pv_var (i := 1) (fun s : S_check_row => s.v_base) (fun _ => rfl))) (PV.ab pv_int))))
  (bv_cons (sl'' := sl_check_row_1) sv_never
  (bv_nil (sl := sl_check_row_1) (h := fun s => s) (fun _ => Wk.refl _)))
  (bv_nil (h := fun (s : S_check_row) => (s : S_check_row)) (fun _ => (.s (.s (.s (.s .nil)))))))
  (bv_nil (h := fun (s : S_check_row) => ({ s with v_k := 0, v_digit := 0 } : S_check_row)) (fun _ => (.s (.s (.d (.d .nil))))))))
  (bv_nil (h := fun (s : S_check_row) => (s : S_check_row)) (fun _ => (.s (.s (.s (.s .nil)))))))))))
/-! ## worth_of -/
structure S_worth_of where
  mk ::
  v_row : (List Int)
  v_base : Int
  v_found : Int
  v_digit : Int
@[reducible] def sl_worth_of_0 (s : S_worth_of) : Sl := (fun s : S_worth_of => ([some (Mo.b, enc s.v_row), some (Mo.a, enc s.v_base), some (Mo.a, enc s.v_found), some (Mo.a, enc s.v_digit)] : Sl)) s
@[reducible] def sl_worth_of_1 (s : S_worth_of) : Sl := (fun s : S_worth_of => ([some (Mo.b, enc s.v_row), some (Mo.a, enc s.v_base), some (Mo.a, enc s.v_found), none] : Sl)) s
@[reducible] def sl_worth_of_2 (s : S_worth_of) : Sl := (fun s : S_worth_of => ([some (Mo.b, enc s.v_row), some (Mo.a, enc s.v_base), none, none] : Sl)) s
def lp_worth_of_0 (s : S_worth_of) : Option (Out S_worth_of Int) :=
  seqO ((((some s.v_found).bind fun x31 => (some s.v_base).bind fun x32 => iMul x31 x32).bind fun x33 => (some s.v_digit).bind fun x34 => some (x33 + x34)).bind fun x35 => some (Out.nx (ρ := Int) { s with v_found := x35 })) fun s =>
  some (Out.nx (ρ := Int) { s with v_digit := 0 })
def fb_worth_of (s : S_worth_of) : Option (Out S_worth_of Int) :=
  seqO ((some (0 : Int)).bind fun x10 => some (Out.nx (ρ := Int) { s with v_found := x10 })) fun s =>
  seqO ((some s.v_row).bind fun x36 => forO (fun (s : S_worth_of) (t : Int) => { s with v_digit := t }) lp_worth_of_0 x36 s) fun s =>
  seqO ((some s.v_found).bind fun x39 => some (Out.rt x39)) fun s =>
  some (Out.nx (ρ := Int) s)
def F_worth_of (v_row : (List Int)) (v_base : Int) : Option Int := outF none (fb_worth_of (⟨v_row, v_base, 0, 0⟩ : S_worth_of))
@[reducible] def sa_worth_of (a : (List Int) × Int × Unit) : Sl := [some (Mo.b, enc a.1), some (Mo.a, enc a.2.1), none, none]
@[reducible] def in_worth_of (a : (List Int) × Int × Unit) : S_worth_of := ⟨a.1, a.2.1, 0, 0⟩
abbrev N_worth_of : List Str := ["row", "base", "found", "digit"]
abbrev s_worth_of : Stmt := topS 16
theorem sc_worth_of : FnScope N_worth_of ["row", "base"] (defScope s_worth_of) := ⟨rfl, rfl, rfl, by decide +kernel, rfl, by decide +kernel, by decide +kernel⟩
theorem ok_worth_of (T : Top K mg) : FnOk P w K mg base CX0 1 T.a_worth_of T.d_worth_of ["row", "base"] (spF K N_worth_of 2 sa_worth_of .a (fun a => F_worth_of a.1 a.2.1)) := by
  have nd := sc_worth_of.nd
  refine fn_v (slE := sl_worth_of_2) (fb := fun a => fb_worth_of (in_worth_of a)) none T.F_worth_of sc_worth_of rfl (fun _ h => nomatch h) (.inl rfl) (fun _ => rfl) fun cdv A outer s H E hr => ?_
  exact (bv_wk (sl'' := sl_worth_of_2) (h := in_worth_of) (fun _ => Wk.refl _)
  (bv_cons (sl'' := sl_worth_of_1) (sv_set (i := 2) (fun (s : S_worth_of) t => { s with v_found := t }) (fun _ _ => rfl) nd pv_int)
  (bv_cons (sl'' := sl_worth_of_1) (sv_for (sl := sl_worth_of_1) PassesOwn.never (piv_varb (i := 0) (fun s : S_worth_of => s.v_row) (fun _ => rfl)) (gv_name (i := 3) (slb := sl_worth_of_0) (set := (fun (s : S_worth_of) (t : Int) => { s with v_digit := t })) (fun _ _ => rfl) nd)
  (bv_cons (sl'' := sl_worth_of_0) (sv_set (i := 2) (fun (s : S_worth_of) t => { s with v_found := t }) (fun _ _ => rfl) nd (pv_add (PV.ab (pv_mul (PV.ab (pv_var (i := 2) (fun s : S_worth_of => s.v_found) (fun _ => rfl))) (PV.ab (pv_var (i := 1) (fun s : S_worth_of => s.v_base) (fun _ => rfl))))) (PV.ab (pv_var (i := 3) (fun s : S_worth_of => s.v_digit) (fun _ => rfl)))))
  (bv_nil (h := fun (s : S_worth_of) => ({ s with v_digit := 0 } : S_worth_of)) (fun _ => (.s (.s (.s (.d .nil))))))))
  (bv_cons (sl'' := sl_worth_of_2) (sv_ret (pv_var (i := 2) (fun s : S_worth_of => s.v_found) (fun _ => rfl)))
  (bv_nil (sl := sl_worth_of_2) (h := fun s => s) (fun _ => Wk.refl _))))))
/-! ## number_of -/
structure S_number_of where
  mk ::
  v_row : (List Int)
  v_base : Int
@[reducible] def sl_number_of_0 (s : S_number_of) : Sl := (fun s : S_number_of => ([some (Mo.a, enc s.v_row), some (Mo.a, enc s.v_base)] : Sl)) s
def fb_number_of (s : S_number_of) : Option (Out S_number_of Int) :=
  seqO ((((some s.v_row).bind fun x22 => ((some s.v_base).bind fun x23 => (some ()).bind fun x24 => some (x23, x24)).bind fun x25 => some (x22, x25)).bind fun x26 => F_check_row x26.1 x26.2.1).bind fun _ => some (Out.nx (ρ := Int) s)) fun s =>
  seqO ((((some s.v_row).bind fun x39 => ((some s.v_base).bind fun x40 => (some ()).bind fun x41 => some (x40, x41)).bind fun x42 => some (x39, x42)).bind fun x43 => F_worth_of x43.1 x43.2.1).bind fun x44 => some (Out.rt x44)) fun s =>
  some (Out.nx (ρ := Int) s)
def F_number_of (v_row : (List Int)) (v_base : Int) : Option Int := outF none (fb_number_of (⟨v_row, v_base⟩ : S_number_of))
@[reducible] def sa_number_of (a : (List Int) × Int × Unit) : Sl := [some (Mo.a, enc a.1), some (Mo.a, enc a.2.1)]
@[reducible] def in_number_of (a : (List Int) × Int × Unit) : S_number_of := ⟨a.1, a.2.1⟩
abbrev N_number_of : List Str := ["row", "base"]
abbrev s_number_of : Stmt := topS 17
theorem sc_number_of : FnScope N_number_of ["row", "base"] (defScope s_number_of) := ⟨rfl, rfl, rfl, by decide +kernel, rfl, by decide +kernel, by decide +kernel⟩
theorem ok_number_of (T : Top K mg) : FnOk P w K mg base CX0 3 T.a_number_of T.d_number_of ["row", "base"] (spF K N_number_of 2 sa_number_of .a (fun a => F_number_of a.1 a.2.1)) := by
  have nd := sc_number_of.nd
  refine fn_v (slE := sl_number_of_0) (fb := fun a => fb_number_of (in_number_of a)) none T.F_number_of sc_number_of rfl (fun _ h => nomatch h) (.inl rfl) (fun _ => rfl) fun cdv A outer s H E hr => ?_
  exact (bv_wk (sl'' := sl_number_of_0) (h := in_number_of) (fun _ => Wk.refl _)
  (bv_cons (sl'' := sl_number_of_0) (sv_expr (pv_calla (ok_check_row T) (hr.mono (by decide)) (by rfl) T.m_check_row T.F_check_row.kp T.b_check_row (av_a (pv_var (i := 0) (fun s : S_number_of => s.v_row) (fun _ => rfl)) (av_a (pv_var (i := 1) (fun s : S_number_of => s.v_base) (fun _ => rfl)) av_nil)) (fun _ => ⟨2, rfl, rfl⟩)))
  (bv_cons (sl'' := sl_number_of_0) (sv_ret (pv_calla (ok_worth_of T) (hr.mono (by decide)) (by rfl) T.m_worth_of T.F_worth_of.kp T.b_worth_of (av_b (PV.ab (pv_var (i := 0) (fun s : S_number_of => s.v_row) (fun _ => rfl))) (av_a (pv_var (i := 1) (fun s : S_number_of => s.v_base) (fun _ => rfl)) av_nil)) (fun _ => ⟨2, rfl, rfl⟩)))
  (bv_nil (sl := sl_number_of_0) (h := fun s => s) (fun _ => Wk.refl _)))))
/-! ## is_sum -/
structure S_is_sum where
  mk ::
  v_told : (List Int)
  v_number : Int
@[reducible] def sl_is_sum_0 (s : S_is_sum) : Sl := (fun s : S_is_sum => ([some (Mo.b, enc s.v_told), some (Mo.a, enc s.v_number), none] : Sl)) s
def fb_is_sum (s : S_is_sum) : Option (Out S_is_sum Bool) :=
  seqO ((((some s.v_told).bind fun x29 => (lNew x29).bind fun x30 => compO (fun s : (S_is_sum × Int) => some true) (fun s : (S_is_sum × Int) => ((some s.1.v_number).bind fun x25 => (some s.2).bind fun x26 => some (x25 - x26)).bind fun x27 => (some s.1.v_told).bind fun x28 => dIn x27 x28) (fun t : Int => ((s, t) : (S_is_sum × Int))) x30).bind fun x31 => some (x31.any id)).bind fun x32 => some (Out.rt x32)) fun s =>
  some (Out.nx (ρ := Bool) s)
def F_is_sum (v_told : (List Int)) (v_number : Int) : Option Bool := outF none (fb_is_sum (⟨v_told, v_number⟩ : S_is_sum))
@[reducible] def sa_is_sum (a : (List Int) × Int × Unit) : Sl := [some (Mo.b, enc a.1), some (Mo.a, enc a.2.1), none]
@[reducible] def in_is_sum (a : (List Int) × Int × Unit) : S_is_sum := ⟨a.1, a.2.1⟩
abbrev N_is_sum : List Str := ["told", "number", "one"]
abbrev s_is_sum : Stmt := topS 35
theorem sc_is_sum : FnScope N_is_sum ["told", "number"] (defScope s_is_sum) := ⟨rfl, rfl, rfl, by decide +kernel, rfl, by decide +kernel, by decide +kernel⟩
theorem ok_is_sum (T : Top K mg) : FnOk P w K mg base CX0 1 T.a_is_sum T.d_is_sum ["told", "number"] (spF K N_is_sum 2 sa_is_sum .a (fun a => F_is_sum a.1 a.2.1)) := by
  have nd := sc_is_sum.nd
  refine fn_v (slE := sl_is_sum_0) (fb := fun a => fb_is_sum (in_is_sum a)) none T.F_is_sum sc_is_sum rfl (fun _ h => nomatch h) (.inl rfl) (fun _ => rfl) fun cdv A outer s H E hr => ?_
  exact (bv_wk (sl'' := sl_is_sum_0) (h := in_is_sum) (fun _ => Wk.refl _)
  (bv_cons (sl'' := sl_is_sum_0) (sv_ret (pv_any (by rfl) T.z_any (PV.fb (pv_lc (own := [("one", 2)]) (js := [2]) (slb := (fun s : (S_is_sum × Int) => ([some (Mo.b, enc s.1.v_told), some (Mo.a, enc s.1.v_number), some (Mo.a, enc s.2)] : Sl))) (set := fun (g : S_is_sum) (t : Int) => ((g, t) : (S_is_sum × Int))) nd (piv_listb (pv_varb (i := 0) (fun s : S_is_sum => s.v_told) (fun _ => rfl))) (blkOk_by (N := N_is_sum) (sc := defScope s_is_sum) (by decide +kernel)) (by decide) (fun _ _ _ _ _ => (gv_name (i := 2) (fun _ _ => rfl) nd)) (fun _ _ _ _ _ => pbs_nil) (fun _ _ _ _ _ => (pv_cmp (c_in (hu65 hr)) (PV.ab (pv_sub (PV.ab (pv_var (i := 1) (fun s : (S_is_sum × Int) => s.1.v_number) (fun _ => rfl))) (PV.ab (pv_var (i := 2) (fun s : (S_is_sum × Int) => s.2) (fun _ => rfl))))) (pv_varb (i := 0) (fun s : (S_is_sum × Int) => s.1.v_told) (fun _ => rfl))))))))
  (bv_nil (sl := sl_is_sum_0) (h := fun s => s) (fun _ => Wk.refl _))))
/-! ## is_chain -/
structure S_is_chain where
  mk ::
  v_told : (List Int)
@[reducible] def sl_is_chain_0 (s : S_is_chain) : Sl := (fun s : S_is_chain => ([some (Mo.a, enc s.v_told), none, none, none] : Sl)) s
def fb_is_chain (s : S_is_chain) : Option (Out S_is_chain Bool) :=
  seqO (((((some s.v_told).bind fun x84 => some (x84.length : Int)).bind fun x85 => (some (0 : Int)).bind fun x86 => some (decide (x85 = x86))).bind fun x104 => if x104 = true then some true else (((some s.v_told).bind fun x87 => (some (0 : Int)).bind fun x88 => atI x87 x88).bind fun x89 => (some (1 : Int)).bind fun x90 => some (!decide (x89 = x90))).bind fun x103 => if x103 = true then some true else ((((some s.v_told).bind fun x95 => ((some s.v_told).bind fun x92 => ((some (1 : Int)).bind fun x91 => some (some x91)).bind fun x93 => (some (none : Option Int)).bind fun x94 => some (cut x92 x93 x94)).bind fun x96 => some (List.zipWith T2.mk x95 x96)).bind fun x99 => (lNew x99).bind fun x100 => compO (fun s : ((S_is_chain × Int) × Int) => some true) (fun s : ((S_is_chain × Int) × Int) => (some s.1.2).bind fun x97 => (some s.2).bind fun x98 => some (decide (x97 < x98))) (fun t : (T2 Int Int) => (((s, t.a), t.b) : ((S_is_chain × Int) × Int))) x100).bind fun x101 => some (x101.all id)).bind fun x102 => some (!x102)).bind fun x108 => if x108 = true then
  (seqO ((some false).bind fun x107 => some (Out.rt x107)) fun s =>
  some (Out.nx (ρ := Bool) s))
  else some (Out.nx (ρ := Bool) s)) fun s =>
  seqO (((((some (1 : Int)).bind fun x146 => ((some s.v_told).bind fun x145 => some (x145.length : Int)).bind fun x147 => rng2 x146 x147).bind fun x159 => (lNew x159).bind fun x160 => compO (fun s : (S_is_chain × Int) => some true) (fun s : (S_is_chain × Int) => (((some s.1.v_told).bind fun x149 => (some (none : Option Int)).bind fun x150 => ((some s.2).bind fun x148 => some (some x148)).bind fun x151 => some (cut x149 x150 x151)).bind fun x154 => (((some s.1.v_told).bind fun x152 => (some s.2).bind fun x153 => atI x152 x153).bind fun x155 => (some ()).bind fun x156 => some (x155, x156)).bind fun x157 => some (x154, x157)).bind fun x158 => F_is_sum x158.1 x158.2.1) (fun t : Int => ((s, t) : (S_is_chain × Int))) x160).bind fun x161 => some (x161.all id)).bind fun x162 => some (Out.rt x162)) fun s =>
  some (Out.nx (ρ := Bool) s)
def F_is_chain (v_told : (List Int)) : Option Bool := outF none (fb_is_chain (⟨v_told⟩ : S_is_chain))
@[reducible] def sa_is_chain (a : (List Int) × Unit) : Sl := [some (Mo.a, enc a.1), none, none, none]
@[reducible] def in_is_chain (a : (List Int) × Unit) : S_is_chain := ⟨a.1⟩
abbrev N_is_chain : List Str := ["told", "k", "one", "two"]
abbrev s_is_chain : Stmt := topS 36
theorem sc_is_chain : FnScope N_is_chain ["told"] (defScope s_is_chain) := ⟨rfl, rfl, rfl, by decide +kernel, rfl, by decide +kernel, by decide +kernel⟩
theorem ok_is_chain (T : Top K mg) : FnOk P w K mg base CX0 2 T.a_is_chain T.d_is_chain ["told"] (spF K N_is_chain 1 sa_is_chain .a (fun a => F_is_chain a.1)) := by
  have nd := sc_is_chain.nd
  refine fn_v (slE := sl_is_chain_0) (fb := fun a => fb_is_chain (in_is_chain a)) none T.F_is_chain sc_is_chain rfl (fun _ h => nomatch h) (.inl rfl) (fun _ => rfl) fun cdv A outer s H E hr => ?_
  exact (bv_wk (sl'' := sl_is_chain_0) (h := in_is_chain) (fun _ => Wk.refl _)
  (bv_cons (sl'' := sl_is_chain_0) (sv_if (PBw.pb (pb_or (pb_cmp c_eqS (PV.ab (pv_len (by rfl) T.z_len (PV.ab (pv_var (i := 0) (fun s : S_is_chain => s.v_told) (fun _ => rfl))))) (PV.ab pv_int)) (pb_or (pb_cmp c_neS (PV.ab (pv_ix (PV.ab (pv_var (i := 0) (fun s : S_is_chain => s.v_told) (fun _ => rfl))) (PV.ab pv_int))) (PV.ab pv_int)) (pb_or1 (pb_not (pv_val (pv_all (by rfl) T.z_all (PV.fb (pv_lc (own := [("one", 2), ("two", 3)]) (js := [2, 3]) (slb := (fun s : ((S_is_chain × Int) × Int) => ([some (Mo.a, enc s.1.1.v_told), none, some (Mo.a, enc s.1.2), some (Mo.a, enc s.2)] : Sl))) (set := fun (g : S_is_chain) (t : (T2 Int Int)) => (((g, t.a), t.b) : ((S_is_chain × Int) × Int))) nd (IV.ab (piv_zip (by rfl) T.z_zip (pv_var (i := 0) (fun s : S_is_chain => s.v_told) (fun _ => rfl)) (PV.fa (pv_sl (PV.ab (pv_var (i := 0) (fun s : S_is_chain => s.v_told) (fun _ => rfl))) (pvo_some (PV.ab pv_int)) pvo_none)))) (blkOk_by (N := N_is_chain) (sc := defScope s_is_chain) (by decide +kernel)) (by decide) (fun _ _ _ _ _ => (gv_tup (fun t : (T2 Int Int) => [enc t.a, enc t.b]) (fun _ => rfl) (fun _ => rfl) (gvs_cons (p1 := fun t : (T2 Int Int) => t.a) (p2 := fun t : (T2 Int Int) => t) (gv_name (i := 2) (slb := (fun s : (S_is_chain × Int) => ([some (Mo.a, enc s.1.v_told), none, some (Mo.a, enc s.2), none] : Sl))) (set := fun (g : S_is_chain) (t : Int) => ((g, t) : (S_is_chain × Int))) (fun _ _ => rfl) nd) (gvs_cons (p1 := fun t : (T2 Int Int) => t.b) (p2 := fun t : (T2 Int Int) => t) (gv_name (i := 3) (slb := (fun s : ((S_is_chain × Int) × Int) => ([some (Mo.a, enc s.1.1.v_told), none, some (Mo.a, enc s.1.2), some (Mo.a, enc s.2)] : Sl))) (set := fun (g : (S_is_chain × Int)) (t : Int) => ((g, t) : ((S_is_chain × Int) × Int))) (fun _ _ => rfl) nd) gvs_nil)))) (fun _ _ _ _ _ => pbs_nil) (fun _ _ _ _ _ => (pv_cmp c_lt (PV.ab (pv_var (i := 2) (fun s : ((S_is_chain × Int) × Int) => s.1.2) (fun _ => rfl))) (PV.ab (pv_var (i := 3) (fun s : ((S_is_chain × Int) × Int) => s.2) (fun _ => rfl))))))))))))))
  (bv_cons (sl'' := sl_is_chain_0) (sv_ret pv_bool)
  (bv_nil (sl := sl_is_chain_0) (h := fun s => s) (fun _ => Wk.refl _)))
  (bv_nil (h := fun (s : S_is_chain) => (s : S_is_chain)) (fun _ => (.s (.s (.s (.s .nil)))))))
  (bv_cons (sl'' := sl_is_chain_0) (sv_ret (pv_all (by rfl) T.z_all (PV.fb (pv_lc (own := [("k", 1)]) (js := [1]) (slb := (fun s : (S_is_chain × Int) => ([some (Mo.a, enc s.1.v_told), some (Mo.a, enc s.2), none, none] : Sl))) (set := fun (g : S_is_chain) (t : Int) => ((g, t) : (S_is_chain × Int))) nd (IV.ab (piv_range2 (by rfl) T.z_range (PV.ab pv_int) (PV.ab (pv_len (by rfl) T.z_len (PV.ab (pv_var (i := 0) (fun s : S_is_chain => s.v_told) (fun _ => rfl))))))) (blkOk_by (N := N_is_chain) (sc := defScope s_is_chain) (by decide +kernel)) (by decide) (fun _ _ _ _ _ => (gv_name (i := 1) (fun _ _ => rfl) nd)) (fun _ _ _ _ _ => pbs_nil) (fun _ _ _ _ _ => (pv_calla (ok_is_sum T) (hr.mono (by decide)) (by rfl) T.m_is_sum T.F_is_sum.kp T.b_is_sum (av_b (PV.fb (pv_sl (PV.ab (pv_var (i := 0) (fun s : (S_is_chain × Int) => s.1.v_told) (fun _ => rfl))) pvo_none (pvo_some (PV.ab (pv_var (i := 1) (fun s : (S_is_chain × Int) => s.2) (fun _ => rfl)))))) (av_a (pv_ix (PV.ab (pv_var (i := 0) (fun s : (S_is_chain × Int) => s.1.v_told) (fun _ => rfl))) (PV.ab (pv_var (i := 1) (fun s : (S_is_chain × Int) => s.2) (fun _ => rfl)))) av_nil)) (fun _ => ⟨1, rfl, rfl⟩)))))))
  (bv_nil (sl := sl_is_chain_0) (h := fun s => s) (fun _ => Wk.refl _)))))
/-! ## doubled -/
structure S_doubled where
  mk ::
  v_number : Int
  v_place : Int
  v__ : Int
@[reducible] def sl_doubled_0 (s : S_doubled) : Sl := (fun s : S_doubled => ([some (Mo.a, enc s.v_number), some (Mo.a, enc s.v_place), some (Mo.a, enc s.v__)] : Sl)) s
@[reducible] def sl_doubled_1 (s : S_doubled) : Sl := (fun s : S_doubled => ([some (Mo.a, enc s.v_number), some (Mo.a, enc s.v_place), none] : Sl)) s
def lp_doubled_0 (s : S_doubled) : Option (Out S_doubled Int) :=
  seqO (((some (2 : Int)).bind fun x22 => (some s.v_number).bind fun x23 => iMul x22 x23).bind fun x24 => some (Out.nx (ρ := Int) { s with v_number := x24 })) fun s =>
  some (Out.nx (ρ := Int) { s with v__ := 0 })
def fb_doubled (s : S_doubled) : Option (Out S_doubled Int) :=
  seqO (((some s.v_place).bind fun x15 => rng1 x15).bind fun x25 => forO (fun (s : S_doubled) (t : Int) => { s with v__ := t }) lp_doubled_0 x25 s) fun s =>
  seqO ((some s.v_number).bind fun x28 => some (Out.rt x28)) fun s =>
  some (Out.nx (ρ := Int) s)
def F_doubled (v_number : Int) (v_place : Int) : Option Int := outF none (fb_doubled (⟨v_number, v_place, 0⟩ : S_doubled))
@[reducible] def sa_doubled (a : Int × Int × Unit) : Sl := [some (Mo.a, enc a.1), some (Mo.a, enc a.2.1), none]
@[reducible] def in_doubled (a : Int × Int × Unit) : S_doubled := ⟨a.1, a.2.1, 0⟩
abbrev N_doubled : List Str := ["number", "place", "_"]
abbrev s_doubled : Stmt := topS 41
theorem sc_doubled : FnScope N_doubled ["number", "place"] (defScope s_doubled) := ⟨rfl, rfl, rfl, by decide +kernel, rfl, by decide +kernel, by decide +kernel⟩
theorem ok_doubled (T : Top K mg) : FnOk P w K mg base CX0 1 T.a_doubled T.d_doubled ["number", "place"] (spF K N_doubled 2 sa_doubled .a (fun a => F_doubled a.1 a.2.1)) := by
  have nd := sc_doubled.nd
  refine fn_v (slE := sl_doubled_1) (fb := fun a => fb_doubled (in_doubled a)) none T.F_doubled sc_doubled rfl (fun _ h => nomatch h) (.inl rfl) (fun _ => rfl) fun cdv A outer s H E hr => ?_
  exact (bv_wk (sl'' := sl_doubled_1) (h := in_doubled) (fun _ => Wk.refl _)
  (bv_cons (sl'' := sl_doubled_1) (sv_for (sl := sl_doubled_1) PassesOwn.never (piv_range1 (by rfl) T.z_range (PV.ab (pv_var (i := 1) (fun s : S_doubled => s.v_place) (fun _ => rfl)))) (gv_name (i := 2) (slb := sl_doubled_0) (set := (fun (s : S_doubled) (t : Int) => { s with v__ := t })) (fun _ _ => rfl) nd)
  (bv_cons (sl'' := sl_doubled_0) (sv_set (i := 0) (fun (s : S_doubled) t => { s with v_number := t }) (fun _ _ => rfl) nd (pv_mul (PV.ab pv_int) (PV.ab (pv_var (i := 0) (fun s : S_doubled => s.v_number) (fun _ => rfl)))))
  (bv_nil (h := fun (s : S_doubled) => ({ s with v__ := 0 } : S_doubled)) (fun _ => (.s (.s (.d .nil)))))))
  (bv_cons (sl'' := sl_doubled_1) (sv_ret (pv_var (i := 0) (fun s : S_doubled => s.v_number) (fun _ => rfl)))
  (bv_nil (sl := sl_doubled_1) (h := fun s => s) (fun _ => Wk.refl _)))))
/-! ## by_shifts -/
structure S_by_shifts where
  mk ::
  v_number : Int
  v_other : Int
@[reducible] def sl_by_shifts_0 (s : S_by_shifts) : Sl := (fun s : S_by_shifts => ([some (Mo.a, enc s.v_number), some (Mo.a, enc s.v_other), none, none] : Sl)) s
def fb_by_shifts (s : S_by_shifts) : Option (Out S_by_shifts (List Int)) :=
  seqO ((((some s.v_number).bind fun x29 => ((some (1000000 : Int)).bind fun x30 => (some ()).bind fun x31 => some (x30, x31)).bind fun x32 => some (x29, x32)).bind fun x33 => F_check_number x33.1 x33.2.1).bind fun _ => some (Out.nx (ρ := (List Int)) s)) fun s =>
  seqO (((((some s.v_number).bind fun x60 => (some ()).bind fun x61 => some (x60, x61)).bind fun x62 => F_shifts_of x62.1).bind fun x70 => (lNew x70).bind fun x71 => compO (fun s : ((S_by_shifts × Int) × Int) => some true) (fun s : ((S_by_shifts × Int) × Int) => (((some s.2).bind fun x63 => (some s.1.1.v_other).bind fun x64 => iMul x63 x64).bind fun x65 => ((some s.1.2).bind fun x66 => (some ()).bind fun x67 => some (x66, x67)).bind fun x68 => some (x65, x68)).bind fun x69 => F_doubled x69.1 x69.2.1) (fun t : (T2 Int Int) => (((s, t.a), t.b) : ((S_by_shifts × Int) × Int))) x71).bind fun x72 => some (Out.rt x72)) fun s =>
  some (Out.nx (ρ := (List Int)) s)
def F_by_shifts (v_number : Int) (v_other : Int) : Option (List Int) := outF none (fb_by_shifts (⟨v_number, v_other⟩ : S_by_shifts))
@[reducible] def sa_by_shifts (a : Int × Int × Unit) : Sl := [some (Mo.a, enc a.1), some (Mo.a, enc a.2.1), none, none]
@[reducible] def in_by_shifts (a : Int × Int × Unit) : S_by_shifts := ⟨a.1, a.2.1⟩
abbrev N_by_shifts : List Str := ["number", "other", "place", "sign"]
abbrev s_by_shifts : Stmt := topS 42
theorem sc_by_shifts : FnScope N_by_shifts ["number", "other"] (defScope s_by_shifts) := ⟨rfl, rfl, rfl, by decide +kernel, rfl, by decide +kernel, by decide +kernel⟩
theorem ok_by_shifts (T : Top K mg) : FnOk P w K mg base CX0 3 T.a_by_shifts T.d_by_shifts ["number", "other"] (spF K N_by_shifts 2 sa_by_shifts .f (fun a => F_by_shifts a.1 a.2.1)) := by
  have nd := sc_by_shifts.nd
  refine fn_v (slE := sl_by_shifts_0) (fb := fun a => fb_by_shifts (in_by_shifts a)) none T.F_by_shifts sc_by_shifts rfl (fun _ h => nomatch h) (.inr ⟨rfl, rfl⟩) (fun _ => rfl) fun cdv A outer s H E hr => ?_
  exact (bv_wk (sl'' := sl_by_shifts_0) (h := in_by_shifts) (fun _ => Wk.refl _)
  (bv_cons (sl'' := sl_by_shifts_0) (sv_expr (pv_calla (ok_check_number T) (hr.mono (by decide)) (by rfl) T.m_check_number T.F_check_number.kp T.b_check_number (av_a (pv_var (i := 0) (fun s : S_by_shifts => s.v_number) (fun _ => rfl)) (av_a (pv_gint (i := 1000000) (by rfl) T.c_MOST_BINARY.choose_spec ⟨_, rfl⟩) av_nil)) (fun _ => ⟨0, rfl, rfl⟩)))
  (bv_cons (sl'' := sl_by_shifts_0) (sv_retf (pv_lc (own := [("place", 2), ("sign", 3)]) (js := [2, 3]) (slb := (fun s : ((S_by_shifts × Int) × Int) => ([some (Mo.a, enc s.1.1.v_number), some (Mo.a, enc s.1.1.v_other), some (Mo.a, enc s.1.2), some (Mo.a, enc s.2)] : Sl))) (set := fun (g : S_by_shifts) (t : (T2 Int Int)) => (((g, t.a), t.b) : ((S_by_shifts × Int) × Int))) nd (IV.ab (piv_list (PV.fa (pv_callf (ok_shifts_of T) (hr.mono (by decide)) (by rfl) T.m_shifts_of T.F_shifts_of.kp T.b_shifts_of (av_a (pv_var (i := 0) (fun s : S_by_shifts => s.v_number) (fun _ => rfl)) av_nil) (fun _ => ⟨2, rfl, rfl⟩))))) (blkOk_by (N := N_by_shifts) (sc := defScope s_by_shifts) (by decide +kernel)) (by decide) (fun _ _ _ _ _ => (gv_tup (fun t : (T2 Int Int) => [enc t.a, enc t.b]) (fun _ => rfl) (fun _ => rfl) (gvs_cons (p1 := fun t : (T2 Int Int) => t.a) (p2 := fun t : (T2 Int Int) => t) (gv_name (i := 2) (slb := (fun s : (S_by_shifts × Int) => ([some (Mo.a, enc s.1.v_number), some (Mo.a, enc s.1.v_other), some (Mo.a, enc s.2), none] : Sl))) (set := fun (g : S_by_shifts) (t : Int) => ((g, t) : (S_by_shifts × Int))) (fun _ _ => rfl) nd) (gvs_cons (p1 := fun t : (T2 Int Int) => t.b) (p2 := fun t : (T2 Int Int) => t) (gv_name (i := 3) (slb := (fun s : ((S_by_shifts × Int) × Int) => ([some (Mo.a, enc s.1.1.v_number), some (Mo.a, enc s.1.1.v_other), some (Mo.a, enc s.1.2), some (Mo.a, enc s.2)] : Sl))) (set := fun (g : (S_by_shifts × Int)) (t : Int) => ((g, t) : ((S_by_shifts × Int) × Int))) (fun _ _ => rfl) nd) gvs_nil)))) (fun _ _ _ _ _ => pbs_nil) (fun _ _ _ _ _ => (pv_calla (ok_doubled T) (hr.mono (by decide)) (by rfl) T.m_doubled T.F_doubled.kp T.b_doubled (av_a (pv_mul (PV.ab (pv_var (i := 3) (fun s : ((S_by_shifts × Int) × Int) => s.2) (fun _ => rfl))) (PV.ab (pv_var (i := 1) (fun s : ((S_by_shifts × Int) × Int) => s.1.1.v_other) (fun _ => rfl)))) (av_a (pv_var (i := 2) (fun s : ((S_by_shifts × Int) × Int) => s.1.2) (fun _ => rfl)) av_nil)) (fun _ => ⟨1, rfl, rfl⟩)))))
  (bv_nil (sl := sl_by_shifts_0) (h := fun s => s) (fun _ => Wk.refl _)))))
/-! ## law -/
structure S_law where
  mk ::
  v_script : (List Int)
  v_draws : (List Int)
  v_turn : Int
  v_number : Int
  v_row : (List Int)
  v_told : (List (T2 Int Int))
  v_one : (List Int)
  v_two : (List Int)
  v_ternary : (List Int)
  v_base : Int
  v_chain : (List Int)
  v_doubles : Int
  v_places : Int
  v_some : (List (List Int))
@[reducible] def sl_law_0 (s : S_law) : Sl := (fun s : S_law => ([some (Mo.b, enc s.v_script), some (Mo.a, enc s.v_draws), some (Mo.a, enc s.v_turn), some (Mo.a, enc s.v_number), some (Mo.a, enc s.v_row), some (Mo.a, enc s.v_told), some (Mo.a, enc s.v_one), none, none, none, none, none, none, none, none, none, none, none] : Sl)) s
@[reducible] def sl_law_1 (s : S_law) : Sl := (fun s : S_law => ([some (Mo.b, enc s.v_script), some (Mo.a, enc s.v_draws), some (Mo.a, enc s.v_turn), some (Mo.a, enc s.v_number), some (Mo.a, enc s.v_row), some (Mo.a, enc s.v_told), some (Mo.a, enc s.v_one), some (Mo.a, enc s.v_two), none, none, none, none, none, none, none, none, none, none] : Sl)) s
@[reducible] def sl_law_2 (s : S_law) : Sl := (fun s : S_law => ([some (Mo.b, enc s.v_script), some (Mo.a, enc s.v_draws), some (Mo.a, enc s.v_turn), some (Mo.a, enc s.v_number), some (Mo.a, enc s.v_row), some (Mo.a, enc s.v_told), some (Mo.a, enc s.v_one), some (Mo.a, enc s.v_two), some (Mo.a, enc s.v_ternary), some (Mo.a, enc s.v_base), some (Mo.a, enc s.v_chain), none, none, none, none, none, none, none] : Sl)) s
@[reducible] def sl_law_3 (s : S_law) : Sl := (fun s : S_law => ([some (Mo.b, enc s.v_script), some (Mo.a, enc s.v_draws), some (Mo.a, enc s.v_turn), some (Mo.a, enc s.v_number), some (Mo.a, enc s.v_row), some (Mo.a, enc s.v_told), some (Mo.a, enc s.v_one), some (Mo.a, enc s.v_two), some (Mo.a, enc s.v_ternary), some (Mo.a, enc s.v_base), some (Mo.a, enc s.v_chain), some (Mo.a, enc s.v_doubles), none, none, none, none, none, none] : Sl)) s
@[reducible] def sl_law_4 (s : S_law) : Sl := (fun s : S_law => ([some (Mo.b, enc s.v_script), some (Mo.a, enc s.v_draws), some (Mo.a, enc s.v_turn), some (Mo.a, enc s.v_number), some (Mo.a, enc s.v_row), some (Mo.a, enc s.v_told), none, none, none, none, none, none, none, none, none, none, none, none] : Sl)) s
@[reducible] def sl_law_5 (s : S_law) : Sl := (fun s : S_law => ([some (Mo.b, enc s.v_script), some (Mo.a, enc s.v_draws), some (Mo.a, enc s.v_turn), some (Mo.a, enc s.v_number), some (Mo.a, enc s.v_row), some (Mo.a, enc s.v_told), some (Mo.a, enc s.v_one), some (Mo.a, enc s.v_two), some (Mo.a, enc s.v_ternary), none, none, none, none, none, none, none, none, none] : Sl)) s
@[reducible] def sl_law_6 (s : S_law) : Sl := (fun s : S_law => ([some (Mo.b, enc s.v_script), some (Mo.a, enc s.v_draws), some (Mo.a, enc s.v_turn), some (Mo.a, enc s.v_number), some (Mo.a, enc s.v_row), some (Mo.a, enc s.v_told), some (Mo.a, enc s.v_one), some (Mo.a, enc s.v_two), some (Mo.a, enc s.v_ternary), some (Mo.a, enc s.v_base), none, none, none, none, none, none, none, none] : Sl)) s
@[reducible] def sl_law_7 (s : S_law) : Sl := (fun s : S_law => ([some (Mo.b, enc s.v_script), some (Mo.a, enc s.v_draws), some (Mo.a, enc s.v_turn), some (Mo.a, enc s.v_number), some (Mo.a, enc s.v_row), some (Mo.a, enc s.v_told), some (Mo.a, enc s.v_one), some (Mo.a, enc s.v_two), some (Mo.a, enc s.v_ternary), some (Mo.a, enc s.v_base), some (Mo.a, enc s.v_chain), some (Mo.a, enc s.v_doubles), some (Mo.a, enc s.v_places), some (Mo.a, enc s.v_some), none, none, none, none] : Sl)) s
@[reducible] def sl_law_8 (s : S_law) : Sl := (fun s : S_law => ([some (Mo.b, enc s.v_script), some (Mo.a, enc s.v_draws), some (Mo.a, enc s.v_turn), some (Mo.a, enc s.v_number), some (Mo.a, enc s.v_row), some (Mo.a, enc s.v_told), some (Mo.a, enc s.v_one), some (Mo.a, enc s.v_two), some (Mo.a, enc s.v_ternary), some (Mo.a, enc s.v_base), some (Mo.a, enc s.v_chain), some (Mo.a, enc s.v_doubles), some (Mo.a, enc s.v_places), none, none, none, none, none] : Sl)) s
@[reducible] def sl_law_9 (s : S_law) : Sl := (fun s : S_law => ([some (Mo.b, enc s.v_script), some (Mo.a, enc s.v_draws), some (Mo.a, enc s.v_turn), some (Mo.a, enc s.v_number), none, none, none, none, none, none, none, none, none, none, none, none, none, none] : Sl)) s
@[reducible] def sl_law_10 (s : S_law) : Sl := (fun s : S_law => ([some (Mo.b, enc s.v_script), some (Mo.a, enc s.v_draws), some (Mo.a, enc s.v_turn), none, none, none, none, none, none, none, none, none, none, none, none, none, none, none] : Sl)) s
@[reducible] def sl_law_11 (s : S_law) : Sl := (fun s : S_law => ([some (Mo.b, enc s.v_script), some (Mo.a, enc s.v_draws), none, none, none, none, none, none, none, none, none, none, none, none, none, none, none, none] : Sl)) s
@[reducible] def sl_law_12 (s : S_law) : Sl := (fun s : S_law => ([some (Mo.b, enc s.v_script), none, none, none, none, none, none, none, none, none, none, none, none, none, none, none, none, none] : Sl)) s
def lp_law_0 (s : S_law) : Option (Out S_law Bool) :=
  seqO (((some (1 : Int)).bind fun x836 => (((some s.v_draws).bind fun x829 => ((some s.v_turn).bind fun x830 => ((((some (120 : Int)).bind fun x816 => ((some (60000 : Int)).bind fun x814 => (some ([] : List Int)).bind fun x815 => some (x814 :: x815)).bind fun x817 => some (x816 :: x817)).bind fun x827 => (((some s.v_draws).bind fun x820 => (((some (5 : Int)).bind fun x818 => (some s.v_turn).bind fun x819 => some (x818 + x819)).bind fun x821 => ((some (2 : Int)).bind fun x822 => (some ()).bind fun x823 => some (x822, x823)).bind fun x824 => some (x821, x824)).bind fun x825 => some (x820, x825)).bind fun x826 => F__law_mix x826.1 x826.2.1 x826.2.2.1).bind fun x828 => atI x827 x828).bind fun x831 => (some ()).bind fun x832 => some (x831, x832)).bind fun x833 => some (x830, x833)).bind fun x834 => some (x829, x834)).bind fun x835 => F__law_mix x835.1 x835.2.1 x835.2.2.1).bind fun x837 => some (x836 + x837)).bind fun x838 => some (Out.nx (ρ := Bool) { s with v_number := x838 })) fun s =>
  seqO ((((some s.v_number).bind fun x855 => (some ()).bind fun x856 => some (x855, x856)).bind fun x857 => F_lean_row x857.1).bind fun x861 => (((some s.v_number).bind fun x858 => (some ()).bind fun x859 => some (x858, x859)).bind fun x860 => F_shifts x860.1).bind fun x862 => some (Out.nx (ρ := Bool) { s with v_row := x861, v_told := x862 })) fun s =>
  seqO (((((((some s.v_row).bind fun x910 => some x910.reverse).bind fun x911 => some (x911.zipIdx.map fun q => T2.mk (q.2 : Int) q.1)).bind fun x916 => (lNew x916).bind fun x917 => compO (fun s : ((S_law × Int) × Int) => (some s.2).bind fun x912 => (some (0 : Int)).bind fun x913 => some (!decide (x912 = x913))) (fun s : ((S_law × Int) × Int) => (some s.1.2).bind fun x914 => (some s.2).bind fun x915 => some (T2.mk x914 x915)) (fun t : (T2 Int Int) => (((s, t.a), t.b) : ((S_law × Int) × Int))) x917).bind fun x918 => (some s.v_told).bind fun x919 => dNe x918 x919).bind fun x932 => if x932 = true then some true else (((some s.v_told).bind fun x920 => some (x920.length : Int)).bind fun x924 => (((some s.v_number).bind fun x921 => (some ()).bind fun x922 => some (x921, x922)).bind fun x923 => F_weight x923.1).bind fun x925 => some (!decide (x924 = x925))).bind fun x931 => if x931 = true then some true else (((some s.v_row).bind fun x926 => (some ()).bind fun x927 => some (x926, x927)).bind fun x928 => F_is_lean x928.1).bind fun x929 => (some true).bind fun x930 => some (!decide (x929 = x930))).bind fun x936 => if x936 = true then
  (seqO ((some false).bind fun x935 => some (Out.rt x935)) fun s =>
  some (Out.nx (ρ := Bool) s))
  else some (Out.nx (ρ := Bool) s)) fun s =>
  seqO (((((((some s.v_number).bind fun x980 => ((some (7 : Int)).bind fun x981 => (some ()).bind fun x982 => some (x981, x982)).bind fun x983 => some (x980, x983)).bind fun x984 => F_by_shifts x984.1 x984.2.1).bind fun x985 => some (x985.length : Int)).bind fun x989 => (((some s.v_number).bind fun x986 => (some ()).bind fun x987 => some (x986, x987)).bind fun x988 => F_weight x988.1).bind fun x990 => some (!decide (x989 = x990))).bind fun x1000 => if x1000 = true then some true else ((((some s.v_number).bind fun x991 => some (-x991)).bind fun x992 => (some ()).bind fun x993 => some (x992, x993)).bind fun x994 => F_weight x994.1).bind fun x998 => (((some s.v_number).bind fun x995 => (some ()).bind fun x996 => some (x995, x996)).bind fun x997 => F_weight x997.1).bind fun x999 => some (!decide (x998 = x999))).bind fun x1004 => if x1004 = true then
  (seqO ((some false).bind fun x1003 => some (Out.rt x1003)) fun s =>
  some (Out.nx (ρ := Bool) s))
  else some (Out.nx (ρ := Bool) s)) fun s =>
  seqO ((((some s.v_number).bind fun x1022 => (some ()).bind fun x1023 => some (x1022, x1023)).bind fun x1024 => F_pans x1024.1).bind fun x1025 => some (Out.nx (ρ := Bool) ((fun (s : S_law) (t : (T2 (List Int) (List Int))) => { ({ s with v_one := t.a }) with v_two := t.b }) s x1025))) fun s =>
  seqO ((((some s.v_number).bind fun x1038 => ((some (3 : Int)).bind fun x1039 => (some ()).bind fun x1040 => some (x1039, x1040)).bind fun x1041 => some (x1038, x1041)).bind fun x1042 => F_row_of x1042.1 x1042.2.1).bind fun x1043 => some (Out.nx (ρ := Bool) { s with v_ternary := x1043 })) fun s =>
  seqO ((((((some s.v_one).bind fun x1083 => some (x1083.length : Int)).bind fun x1085 => ((some s.v_two).bind fun x1084 => some (x1084.length : Int)).bind fun x1086 => some (x1085 + x1086)).bind fun x1092 => (((some s.v_ternary).bind fun x1089 => (lNew x1089).bind fun x1090 => compO (fun s : (S_law × Int) => (some s.2).bind fun x1087 => (some (0 : Int)).bind fun x1088 => some (!decide (x1087 = x1088))) (fun s : (S_law × Int) => some s.2) (fun t : Int => ((s, t) : (S_law × Int))) x1090).bind fun x1091 => some (x1091.length : Int)).bind fun x1093 => some (!decide (x1092 = x1093))).bind fun x1101 => if x1101 = true then some true else (((some s.v_ternary).bind fun x1094 => ((some (3 : Int)).bind fun x1095 => (some ()).bind fun x1096 => some (x1095, x1096)).bind fun x1097 => some (x1094, x1097)).bind fun x1098 => F_number_of x1098.1 x1098.2.1).bind fun x1099 => (some s.v_number).bind fun x1100 => some (!decide (x1099 = x1100))).bind fun x1105 => if x1105 = true then
  (seqO ((some false).bind fun x1104 => some (Out.rt x1104)) fun s =>
  some (Out.nx (ρ := Bool) s))
  else some (Out.nx (ρ := Bool) s)) fun s =>
  seqO ((((((some s.v_one).bind fun x1145 => some x1145.sum).bind fun x1147 => ((some s.v_two).bind fun x1146 => some x1146.sum).bind fun x1148 => some (x1147 - x1148)).bind fun x1149 => (some s.v_number).bind fun x1150 => some (!decide (x1149 = x1150))).bind fun x1163 => if x1163 = true then some true else (((some s.v_one).bind fun x1151 => some (x1151.length : Int)).bind fun x1154 => ((some s.v_ternary).bind fun x1152 => (some (1 : Int)).bind fun x1153 => some ((x1152.count x1153 : Nat) : Int)).bind fun x1155 => some (!decide (x1154 = x1155))).bind fun x1162 => if x1162 = true then some true else ((some s.v_two).bind fun x1156 => some (x1156.length : Int)).bind fun x1160 => ((some s.v_ternary).bind fun x1158 => ((some (1 : Int)).bind fun x1157 => some (-x1157)).bind fun x1159 => some ((x1158.count x1159 : Nat) : Int)).bind fun x1161 => some (!decide (x1160 = x1161))).bind fun x1167 => if x1167 = true then
  (seqO ((some false).bind fun x1166 => some (Out.rt x1166)) fun s =>
  some (Out.nx (ρ := Bool) s))
  else some (Out.nx (ρ := Bool) s)) fun s =>
  seqO (((some (3 : Int)).bind fun x1207 => ((some (2 : Int)).bind fun x1205 => (((some s.v_draws).bind fun x1198 => (((some (10 : Int)).bind fun x1196 => (some s.v_turn).bind fun x1197 => some (x1196 + x1197)).bind fun x1199 => ((some (17 : Int)).bind fun x1200 => (some ()).bind fun x1201 => some (x1200, x1201)).bind fun x1202 => some (x1199, x1202)).bind fun x1203 => some (x1198, x1203)).bind fun x1204 => F__law_mix x1204.1 x1204.2.1 x1204.2.2.1).bind fun x1206 => iMul x1205 x1206).bind fun x1208 => some (x1207 + x1208)).bind fun x1209 => some (Out.nx (ρ := Bool) { s with v_base := x1209 })) fun s =>
  seqO ((((((((some s.v_number).bind fun x1265 => ((some s.v_base).bind fun x1266 => (some ()).bind fun x1267 => some (x1266, x1267)).bind fun x1268 => some (x1265, x1268)).bind fun x1269 => F_row_of x1269.1 x1269.2.1).bind fun x1270 => ((some s.v_base).bind fun x1271 => (some ()).bind fun x1272 => some (x1271, x1272)).bind fun x1273 => some (x1270, x1273)).bind fun x1274 => F_number_of x1274.1 x1274.2.1).bind fun x1275 => (some s.v_number).bind fun x1276 => some (!decide (x1275 = x1276))).bind fun x1291 => if x1291 = true then some true else ((((((some s.v_number).bind fun x1277 => some (-x1277)).bind fun x1278 => ((some s.v_base).bind fun x1279 => (some ()).bind fun x1280 => some (x1279, x1280)).bind fun x1281 => some (x1278, x1281)).bind fun x1282 => F_row_of x1282.1 x1282.2.1).bind fun x1283 => ((some s.v_base).bind fun x1284 => (some ()).bind fun x1285 => some (x1284, x1285)).bind fun x1286 => some (x1283, x1286)).bind fun x1287 => F_number_of x1287.1 x1287.2.1).bind fun x1289 => ((some s.v_number).bind fun x1288 => some (-x1288)).bind fun x1290 => some (!decide (x1289 = x1290))).bind fun x1295 => if x1295 = true then
  (seqO ((some false).bind fun x1294 => some (Out.rt x1294)) fun s =>
  some (Out.nx (ρ := Bool) s))
  else some (Out.nx (ρ := Bool) s)) fun s =>
  seqO ((((some s.v_number).bind fun x1304 => (some ()).bind fun x1305 => some (x1304, x1305)).bind fun x1306 => F_binary_chain x1306.1).bind fun x1307 => some (Out.nx (ρ := Bool) { s with v_chain := x1307 })) fun s =>
  seqO (((((some (1 : Int)).bind fun x1343 => ((some s.v_chain).bind fun x1342 => some (x1342.length : Int)).bind fun x1344 => rng2 x1343 x1344).bind fun x1355 => (lNew x1355).bind fun x1356 => compO (fun s : (S_law × Int) => ((some s.1.v_chain).bind fun x1345 => (some s.2).bind fun x1346 => atI x1345 x1346).bind fun x1353 => ((some (2 : Int)).bind fun x1351 => ((some s.1.v_chain).bind fun x1349 => ((some s.2).bind fun x1347 => (some (1 : Int)).bind fun x1348 => some (x1347 - x1348)).bind fun x1350 => atI x1349 x1350).bind fun x1352 => iMul x1351 x1352).bind fun x1354 => some (decide (x1353 = x1354))) (fun s : (S_law × Int) => some s.2) (fun t : Int => ((s, t) : (S_law × Int))) x1356).bind fun x1357 => some (x1357.length : Int)).bind fun x1358 => some (Out.nx (ρ := Bool) { s with v_doubles := x1358 })) fun s =>
  seqO ((((((some s.v_chain).bind fun x1396 => (some ()).bind fun x1397 => some (x1396, x1397)).bind fun x1398 => F_is_chain x1398.1).bind fun x1399 => (some true).bind fun x1400 => some (!decide (x1399 = x1400))).bind fun x1413 => if x1413 = true then some true else ((((some s.v_number).bind fun x1401 => (some ()).bind fun x1402 => some (x1401, x1402)).bind fun x1403 => F_weight x1403.1).bind fun x1405 => ((some s.v_chain).bind fun x1404 => some (x1404.length : Int)).bind fun x1406 => some (decide (x1405 > x1406))).bind fun x1412 => if x1412 = true then some true else (some s.v_doubles).bind fun x1410 => (((some s.v_row).bind fun x1407 => some (x1407.length : Int)).bind fun x1408 => (some (2 : Int)).bind fun x1409 => some (x1408 - x1409)).bind fun x1411 => some (decide (x1410 < x1411))).bind fun x1417 => if x1417 = true then
  (seqO ((some false).bind fun x1416 => some (Out.rt x1416)) fun s =>
  some (Out.nx (ρ := Bool) s))
  else some (Out.nx (ρ := Bool) s)) fun s =>
  seqO (((some s.v_number).bind fun x1453 => (some (120 : Int)).bind fun x1454 => some (decide (x1453 < x1454))).bind fun x1550 => if x1550 = true then
  (seqO (((some s.v_row).bind fun x1459 => some (x1459.length : Int)).bind fun x1460 => some (Out.nx (ρ := Bool) { s with v_places := x1460 })) fun s =>
  seqO ((((some s.v_number).bind fun x1473 => ((some s.v_places).bind fun x1474 => (some ()).bind fun x1475 => some (x1474, x1475)).bind fun x1476 => some (x1473, x1476)).bind fun x1477 => F_leanest x1477.1 x1477.2.1).bind fun x1478 => some (Out.nx (ρ := Bool) { s with v_some := x1478 })) fun s =>
  seqO ((((some s.v_row).bind fun x1524 => (some s.v_some).bind fun x1525 => dNin x1524 x1525).bind fun x1545 => if x1545 = true then some true else ((((some s.v_number).bind fun x1526 => ((some s.v_places).bind fun x1527 => (some ()).bind fun x1528 => some (x1527, x1528)).bind fun x1529 => some (x1526, x1529)).bind fun x1530 => F_forms x1530.1 x1530.2.1).bind fun x1541 => (lNew x1541).bind fun x1542 => compO (fun s : (S_law × (List Int)) => (((some s.2).bind fun x1533 => (lNew x1533).bind fun x1534 => compO (fun s : ((S_law × (List Int)) × Int) => (some s.2).bind fun x1531 => (some (0 : Int)).bind fun x1532 => some (!decide (x1531 = x1532))) (fun s : ((S_law × (List Int)) × Int) => some s.2) (fun t : Int => ((s, t) : ((S_law × (List Int)) × Int))) x1534).bind fun x1535 => some (x1535.length : Int)).bind fun x1539 => (((some s.1.v_number).bind fun x1536 => (some ()).bind fun x1537 => some (x1536, x1537)).bind fun x1538 => F_weight x1538.1).bind fun x1540 => some (decide (x1539 < x1540))) (fun s : (S_law × (List Int)) => some s.2) (fun t : (List Int) => ((s, t) : (S_law × (List Int)))) x1542).bind fun x1543 => (some ([] : List (List Int))).bind fun x1544 => dNe x1543 x1544).bind fun x1549 => if x1549 = true then
  (seqO ((some false).bind fun x1548 => some (Out.rt x1548)) fun s =>
  some (Out.nx (ρ := Bool) s))
  else some (Out.nx (ρ := Bool) s)) fun s =>
  some (Out.nx (ρ := Bool) { s with v_places := 0, v_some := [] }))
  else some (Out.nx (ρ := Bool) s)) fun s =>
  some (Out.nx (ρ := Bool) { s with v_turn := 0, v_number := 0, v_row := [], v_told := [], v_one := [], v_two := [], v_ternary := [], v_base := 0, v_chain := [], v_doubles := 0 })
def fb_law (s : S_law) : Option (Out S_law Bool) :=
  seqO ((((some s.v_script).bind fun x262 => (some ()).bind fun x263 => some (x262, x263)).bind fun x264 => F__law_draws x264.1).bind fun x265 => some (Out.nx (ρ := Bool) { s with v_draws := x265 })) fun s =>
  seqO (((some (5 : Int)).bind fun x763 => rng1 x763).bind fun x1551 => forO (fun (s : S_law) (t : Int) => { s with v_turn := t }) lp_law_0 x1551 s) fun s =>
  seqO ((some true).bind fun x1554 => some (Out.rt x1554)) fun s =>
  some (Out.nx (ρ := Bool) s)
def F_law (v_script : (List Int)) : Option Bool := outF none (fb_law (⟨v_script, [], 0, 0, [], [], [], [], [], 0, [], 0, 0, []⟩ : S_law))
@[reducible] def sa_law (a : (List Int) × Unit) : Sl := [some (Mo.b, enc a.1), none, none, none, none, none, none, none, none, none, none, none, none, none, none, none, none, none]
@[reducible] def in_law (a : (List Int) × Unit) : S_law := ⟨a.1, [], 0, 0, [], [], [], [], [], 0, [], 0, 0, []⟩
abbrev N_law : List Str := ["script", "draws", "turn", "number", "row", "told", "one", "two", "ternary", "base", "chain", "doubles", "places", "some", "k", "place", "digit", "form"]
abbrev s_law : Stmt := topS 46
theorem sc_law : FnScope N_law ["script"] (defScope s_law) := ⟨rfl, rfl, rfl, by decide +kernel, rfl, by decide +kernel, by decide +kernel⟩
theorem ok_law (T : Top K mg) : FnAt P w K mg base T.a_law T.d_law ["script"] (spF K N_law 1 sa_law .a (fun a => F_law a.1)) := by
  have nd := sc_law.nd
  refine fnAt_v (k := 43) (slE := sl_law_12) (fb := fun a => fb_law (in_law a)) none T.F_law sc_law ⟨rfl, by decide, by decide⟩ rfl (fun _ h => nomatch h) (.inl rfl) (fun _ => rfl) fun cdv s H E hr => ?_
  exact (bv_wk (sl'' := sl_law_12) (h := in_law) (fun _ => Wk.refl _)
  (bv_cons (sl'' := sl_law_11) (sv_set (i := 1) (fun (s : S_law) t => { s with v_draws := t }) (fun _ _ => rfl) nd (PV.fa (pv_callf (ok__law_draws T) (hr.mono (by decide)) (by rfl) T.m__law_draws T.F__law_draws.kp T.b__law_draws (av_b (pv_varb (i := 0) (fun s : S_law => s.v_script) (fun _ => rfl)) av_nil) (fun _ => ⟨5, rfl, rfl⟩))))
  (bv_cons (sl'' := sl_law_11) (sv_for (sl := sl_law_11) PassesOwn.never (piv_range1 (by rfl) T.z_range (PV.ab pv_int)) (gv_name (i := 2) (slb := sl_law_10) (set := (fun (s : S_law) (t : Int) => { s with v_turn := t })) (fun _ _ => rfl) nd)
  (bv_cons (sl'' := sl_law_9) (sv_set (i := 3) (fun (s : S_law) t => { s with v_number := t }) (fun _ _ => rfl) nd (pv_add (PV.ab pv_int) (PV.ab (pv_calla (ok__law_mix T) (hr.mono (by decide)) (by rfl) T.m__law_mix T.F__law_mix.kp T.b__law_mix (av_b (PV.ab (pv_var (i := 1) (fun s : S_law => s.v_draws) (fun _ => rfl))) (av_a (pv_var (i := 2) (fun s : S_law => s.v_turn) (fun _ => rfl)) (av_a (pv_ix (PV.fb (pv_lst (pal_cons pv_int (pal_cons pv_int (pal_nil (τ := Int)))))) (PV.ab (pv_calla (ok__law_mix T) (hr.mono (by decide)) (by rfl) T.m__law_mix T.F__law_mix.kp T.b__law_mix (av_b (PV.ab (pv_var (i := 1) (fun s : S_law => s.v_draws) (fun _ => rfl))) (av_a (pv_add (PV.ab pv_int) (PV.ab (pv_var (i := 2) (fun s : S_law => s.v_turn) (fun _ => rfl)))) (av_a pv_int av_nil))) (fun _ => ⟨1, rfl, rfl⟩)))) av_nil))) (fun _ => ⟨1, rfl, rfl⟩)))))
  (bv_cons (sl'' := sl_law_4) (sv_par (i := 4) (j := 5) (fun (s : S_law) x861 x862 => { s with v_row := x861, v_told := x862 }) (fun _ _ _ => rfl) nd (PV.fa (pv_callf (ok_lean_row T) (hr.mono (by decide)) (by rfl) T.m_lean_row T.F_lean_row.kp T.b_lean_row (av_a (pv_var (i := 3) (fun s : S_law => s.v_number) (fun _ => rfl)) av_nil) (fun _ => ⟨3, rfl, rfl⟩))) (PV.fa (pv_callf (ok_shifts T) (hr.mono (by decide)) (by rfl) T.m_shifts T.F_shifts.kp T.b_shifts (av_a (pv_var (i := 3) (fun s : S_law => s.v_number) (fun _ => rfl)) av_nil) (fun _ => ⟨0, rfl, rfl⟩))))
  (bv_cons (sl'' := sl_law_4) (sv_if (PBw.pb (pb_or (pb_cmp (c_neD (hu64 hr)) (PV.fb (pv_lc (own := [("place", 15), ("digit", 16)]) (js := [15, 16]) (slb := (fun s : ((S_law × Int) × Int) => ([some (Mo.b, enc s.1.1.v_script), some (Mo.a, enc s.1.1.v_draws), some (Mo.a, enc s.1.1.v_turn), some (Mo.a, enc s.1.1.v_number), some (Mo.a, enc s.1.1.v_row), some (Mo.a, enc s.1.1.v_told), none, none, none, none, none, none, none, none, none, some (Mo.a, enc s.1.2), some (Mo.a, enc s.2), none] : Sl))) (set := fun (g : S_law) (t : (T2 Int Int)) => (((g, t.a), t.b) : ((S_law × Int) × Int))) nd (IV.ab (piv_enum (by rfl) T.z_enumerate (PV.fa (pv_rev (PV.ab (pv_var (i := 4) (fun s : S_law => s.v_row) (fun _ => rfl))))))) (blkOk_by (N := N_law) (sc := defScope s_law) (by decide +kernel)) (by decide) (fun _ _ _ _ _ => (gv_tup (fun t : (T2 Int Int) => [enc t.a, enc t.b]) (fun _ => rfl) (fun _ => rfl) (gvs_cons (p1 := fun t : (T2 Int Int) => t.a) (p2 := fun t : (T2 Int Int) => t) (gv_name (i := 15) (slb := (fun s : (S_law × Int) => ([some (Mo.b, enc s.1.v_script), some (Mo.a, enc s.1.v_draws), some (Mo.a, enc s.1.v_turn), some (Mo.a, enc s.1.v_number), some (Mo.a, enc s.1.v_row), some (Mo.a, enc s.1.v_told), none, none, none, none, none, none, none, none, none, some (Mo.a, enc s.2), none, none] : Sl))) (set := fun (g : S_law) (t : Int) => ((g, t) : (S_law × Int))) (fun _ _ => rfl) nd) (gvs_cons (p1 := fun t : (T2 Int Int) => t.b) (p2 := fun t : (T2 Int Int) => t) (gv_name (i := 16) (slb := (fun s : ((S_law × Int) × Int) => ([some (Mo.b, enc s.1.1.v_script), some (Mo.a, enc s.1.1.v_draws), some (Mo.a, enc s.1.1.v_turn), some (Mo.a, enc s.1.1.v_number), some (Mo.a, enc s.1.1.v_row), some (Mo.a, enc s.1.1.v_told), none, none, none, none, none, none, none, none, none, some (Mo.a, enc s.1.2), some (Mo.a, enc s.2), none] : Sl))) (set := fun (g : (S_law × Int)) (t : Int) => ((g, t) : ((S_law × Int) × Int))) (fun _ _ => rfl) nd) gvs_nil)))) (fun _ _ _ _ _ => pbs_one (pb_cmp c_neS (PV.ab (pv_var (i := 16) (fun s : ((S_law × Int) × Int) => s.2) (fun _ => rfl))) (PV.ab pv_int))) (fun _ _ _ _ _ => (pv_tup2 (pv_var (i := 15) (fun s : ((S_law × Int) × Int) => s.1.2) (fun _ => rfl)) (pv_var (i := 16) (fun s : ((S_law × Int) × Int) => s.2) (fun _ => rfl)))))) (PV.ab (pv_var (i := 5) (fun s : S_law => s.v_told) (fun _ => rfl)))) (pb_or (pb_cmp c_neS (PV.ab (pv_len (by rfl) T.z_len (PV.ab (pv_var (i := 5) (fun s : S_law => s.v_told) (fun _ => rfl))))) (PV.ab (pv_calla (ok_weight T) (hr.mono (by decide)) (by rfl) T.m_weight T.F_weight.kp T.b_weight (av_a (pv_var (i := 3) (fun s : S_law => s.v_number) (fun _ => rfl)) av_nil) (fun _ => ⟨1, rfl, rfl⟩)))) (pb_or1 (pb_cmp c_isntB (PV.ab (pv_calla (ok_is_lean T) (hr.mono (by decide)) (by rfl) T.m_is_lean T.F_is_lean.kp T.b_is_lean (av_b (PV.ab (pv_var (i := 4) (fun s : S_law => s.v_row) (fun _ => rfl))) av_nil) (fun _ => ⟨2, rfl, rfl⟩))) (PV.ab pv_bool))))))
  (bv_cons (sl'' := sl_law_4) (sv_ret pv_bool)
  (bv_nil (sl := sl_law_4) (h := fun s => s) (fun _ => Wk.refl _)))
  (bv_nil (h := fun (s : S_law) => (s : S_law)) (fun _ => (.s (.s (.s (.s (.s (.s (.s (.s (.s (.s (.s (.s (.s (.s (.s (.s (.s (.s .nil)))))))))))))))))))))
  (bv_cons (sl'' := sl_law_4) (sv_if (PBw.pb (pb_or (pb_cmp c_neS (PV.ab (pv_len (by rfl) T.z_len (PV.fb (pv_callf (ok_by_shifts T) (hr.mono (by decide)) (by rfl) T.m_by_shifts T.F_by_shifts.kp T.b_by_shifts (av_a (pv_var (i := 3) (fun s : S_law => s.v_number) (fun _ => rfl)) (av_a pv_int av_nil)) (fun _ => ⟨2, rfl, rfl⟩))))) (PV.ab (pv_calla (ok_weight T) (hr.mono (by decide)) (by rfl) T.m_weight T.F_weight.kp T.b_weight (av_a (pv_var (i := 3) (fun s : S_law => s.v_number) (fun _ => rfl)) av_nil) (fun _ => ⟨1, rfl, rfl⟩)))) (pb_or1 (pb_cmp c_neS (PV.ab (pv_calla (ok_weight T) (hr.mono (by decide)) (by rfl) T.m_weight T.F_weight.kp T.b_weight (av_a (pv_neg (PV.ab (pv_var (i := 3) (fun s : S_law => s.v_number) (fun _ => rfl)))) av_nil) (fun _ => ⟨1, rfl, rfl⟩))) (PV.ab (pv_calla (ok_weight T) (hr.mono (by decide)) (by rfl) T.m_weight T.F_weight.kp T.b_weight (av_a (pv_var (i := 3) (fun s : S_law => s.v_number) (fun _ => rfl)) av_nil) (fun _ => ⟨1, rfl, rfl⟩)))))))
  (bv_cons (sl'' := sl_law_4) (sv_ret pv_bool)
  (bv_nil (sl := sl_law_4) (h := fun s => s) (fun _ => Wk.refl _)))
  (bv_nil (h := fun (s : S_law) => (s : S_law)) (fun _ => (.s (.s (.s (.s (.s (.s (.s (.s (.s (.s (.s (.s (.s (.s (.s (.s (.s (.s .nil)))))))))))))))))))))
  (bv_cons (sl'' := sl_law_1) (sv_tup (gv_tup (fun t : (T2 (List Int) (List Int)) => [enc t.a, enc t.b]) (fun _ => rfl) (fun _ => rfl) (gvs_cons (p1 := fun t : (T2 (List Int) (List Int)) => t.a) (p2 := fun t : (T2 (List Int) (List Int)) => t) (gv_name (i := 6) (slb := sl_law_0) (set := fun (s : S_law) (t : (List Int)) => { s with v_one := t }) (fun _ _ => rfl) nd) (gvs_cons (p1 := fun t : (T2 (List Int) (List Int)) => t.b) (p2 := fun t : (T2 (List Int) (List Int)) => t) (gv_name (i := 7) (slb := sl_law_1) (set := fun (s : S_law) (t : (List Int)) => { s with v_two := t }) (fun _ _ => rfl) nd) gvs_nil))) (pv_calla (ok_pans T) (hr.mono (by decide)) (by rfl) T.m_pans T.F_pans.kp T.b_pans (av_a (pv_var (i := 3) (fun s : S_law => s.v_number) (fun _ => rfl)) av_nil) (fun _ => ⟨4, rfl, rfl⟩)))
  (bv_cons (sl'' := sl_law_5) (sv_set (i := 8) (fun (s : S_law) t => { s with v_ternary := t }) (fun _ _ => rfl) nd (PV.fa (pv_callf (ok_row_of T) (hr.mono (by decide)) (by rfl) T.m_row_of T.F_row_of.kp T.b_row_of (av_a (pv_var (i := 3) (fun s : S_law => s.v_number) (fun _ => rfl)) (av_a pv_int av_nil)) (fun _ => ⟨0, rfl, rfl⟩))))
  (bv_cons (sl'' := sl_law_5) (sv_if (PBw.pb (pb_or (pb_cmp c_neS (PV.ab (pv_add (PV.ab (pv_len (by rfl) T.z_len (PV.ab (pv_var (i := 6) (fun s : S_law => s.v_one) (fun _ => rfl))))) (PV.ab (pv_len (by rfl) T.z_len (PV.ab (pv_var (i := 7) (fun s : S_law => s.v_two) (fun _ => rfl))))))) (PV.ab (pv_len (by rfl) T.z_len (PV.fb (pv_lc (own := [("digit", 16)]) (js := [16]) (slb := (fun s : (S_law × Int) => ([some (Mo.b, enc s.1.v_script), some (Mo.a, enc s.1.v_draws), some (Mo.a, enc s.1.v_turn), some (Mo.a, enc s.1.v_number), some (Mo.a, enc s.1.v_row), some (Mo.a, enc s.1.v_told), some (Mo.a, enc s.1.v_one), some (Mo.a, enc s.1.v_two), some (Mo.a, enc s.1.v_ternary), none, none, none, none, none, none, none, some (Mo.a, enc s.2), none] : Sl))) (set := fun (g : S_law) (t : Int) => ((g, t) : (S_law × Int))) nd (IV.ab (piv_list (pv_var (i := 8) (fun s : S_law => s.v_ternary) (fun _ => rfl)))) (blkOk_by (N := N_law) (sc := defScope s_law) (by decide +kernel)) (by decide) (fun _ _ _ _ _ => (gv_name (i := 16) (fun _ _ => rfl) nd)) (fun _ _ _ _ _ => pbs_one (pb_cmp c_neS (PV.ab (pv_var (i := 16) (fun s : (S_law × Int) => s.2) (fun _ => rfl))) (PV.ab pv_int))) (fun _ _ _ _ _ => (pv_var (i := 16) (fun s : (S_law × Int) => s.2) (fun _ => rfl)))))))) (pb_or1 (pb_cmp c_neS (PV.ab (pv_calla (ok_number_of T) (hr.mono (by decide)) (by rfl) T.m_number_of T.F_number_of.kp T.b_number_of (av_a (pv_var (i := 8) (fun s : S_law => s.v_ternary) (fun _ => rfl)) (av_a pv_int av_nil)) (fun _ => ⟨0, rfl, rfl⟩))) (PV.ab (pv_var (i := 3) (fun s : S_law => s.v_number) (fun _ => rfl)))))))
  (bv_cons (sl'' := sl_law_5) (sv_ret pv_bool)
  (bv_nil (sl := sl_law_5) (h := fun s => s) (fun _ => Wk.refl _)))
  (bv_nil (h := fun (s : S_law) => (s : S_law)) (fun _ => (.s (.s (.s (.s (.s (.s (.s (.s (.s (.s (.s (.s (.s (.s (.s (.s (.s (.s .nil)))))))))))))))))))))
  (bv_cons (sl'' := sl_law_5) (sv_if (PBw.pb (pb_or (pb_cmp c_neS (PV.ab (pv_sub (PV.ab (pv_sum (by rfl) T.z_sum (PV.ab (pv_var (i := 6) (fun s : S_law => s.v_one) (fun _ => rfl))))) (PV.ab (pv_sum (by rfl) T.z_sum (PV.ab (pv_var (i := 7) (fun s : S_law => s.v_two) (fun _ => rfl))))))) (PV.ab (pv_var (i := 3) (fun s : S_law => s.v_number) (fun _ => rfl)))) (pb_or (pb_cmp c_neS (PV.ab (pv_len (by rfl) T.z_len (PV.ab (pv_var (i := 6) (fun s : S_law => s.v_one) (fun _ => rfl))))) (PV.ab (pv_countL (PV.ab (pv_var (i := 8) (fun s : S_law => s.v_ternary) (fun _ => rfl))) (PV.ab pv_int)))) (pb_or1 (pb_cmp c_neS (PV.ab (pv_len (by rfl) T.z_len (PV.ab (pv_var (i := 7) (fun s : S_law => s.v_two) (fun _ => rfl))))) (PV.ab (pv_countL (PV.ab (pv_var (i := 8) (fun s : S_law => s.v_ternary) (fun _ => rfl))) (PV.ab (pv_neg (PV.ab pv_int))))))))))
  (bv_cons (sl'' := sl_law_5) (sv_ret pv_bool)
  (bv_nil (sl := sl_law_5) (h := fun s => s) (fun _ => Wk.refl _)))
  (bv_nil (h := fun (s : S_law) => (s : S_law)) (fun _ => (.s (.s (.s (.s (.s (.s (.s (.s (.s (.s (.s (.s (.s (.s (.s (.s (.s (.s .nil)))))))))))))))))))))
  (bv_cons (sl'' := sl_law_6) (sv_set (i := 9) (fun (s : S_law) t => { s with v_base := t }) (fun _ _ => rfl) nd (pv_add (PV.ab pv_int) (PV.ab (pv_mul (PV.ab pv_int) (PV.ab (pv_calla (ok__law_mix T) (hr.mono (by decide)) (by rfl) T.m__law_mix T.F__law_mix.kp T.b__law_mix (av_b (PV.ab (pv_var (i := 1) (fun s : S_law => s.v_draws) (fun _ => rfl))) (av_a (pv_add (PV.ab pv_int) (PV.ab (pv_var (i := 2) (fun s : S_law => s.v_turn) (fun _ => rfl)))) (av_a pv_int av_nil))) (fun _ => ⟨1, rfl, rfl⟩)))))))
  (bv_cons (sl'' := sl_law_6) (sv_if (PBw.pb (pb_or (pb_cmp c_neS (PV.ab (pv_calla (ok_number_of T) (hr.mono (by decide)) (by rfl) T.m_number_of T.F_number_of.kp T.b_number_of (av_a (PV.fa (pv_callf (ok_row_of T) (hr.mono (by decide)) (by rfl) T.m_row_of T.F_row_of.kp T.b_row_of (av_a (pv_var (i := 3) (fun s : S_law => s.v_number) (fun _ => rfl)) (av_a (pv_var (i := 9) (fun s : S_law => s.v_base) (fun _ => rfl)) av_nil)) (fun _ => ⟨0, rfl, rfl⟩))) (av_a (pv_var (i := 9) (fun s : S_law => s.v_base) (fun _ => rfl)) av_nil)) (fun _ => ⟨0, rfl, rfl⟩))) (PV.ab (pv_var (i := 3) (fun s : S_law => s.v_number) (fun _ => rfl)))) (pb_or1 (pb_cmp c_neS (PV.ab (pv_calla (ok_number_of T) (hr.mono (by decide)) (by rfl) T.m_number_of T.F_number_of.kp T.b_number_of (av_a (PV.fa (pv_callf (ok_row_of T) (hr.mono (by decide)) (by rfl) T.m_row_of T.F_row_of.kp T.b_row_of (av_a (pv_neg (PV.ab (pv_var (i := 3) (fun s : S_law => s.v_number) (fun _ => rfl)))) (av_a (pv_var (i := 9) (fun s : S_law => s.v_base) (fun _ => rfl)) av_nil)) (fun _ => ⟨0, rfl, rfl⟩))) (av_a (pv_var (i := 9) (fun s : S_law => s.v_base) (fun _ => rfl)) av_nil)) (fun _ => ⟨0, rfl, rfl⟩))) (PV.ab (pv_neg (PV.ab (pv_var (i := 3) (fun s : S_law => s.v_number) (fun _ => rfl)))))))))
  (bv_cons (sl'' := sl_law_6) (sv_ret pv_bool)
  (bv_nil (sl := sl_law_6) (h := fun s => s) (fun _ => Wk.refl _)))
  (bv_nil (h := fun (s : S_law) => (s : S_law)) (fun _ => (.s (.s (.s (.s (.s (.s (.s (.s (.s (.s (.s (.s (.s (.s (.s (.s (.s (.s .nil)))))))))))))))))))))
  (bv_cons (sl'' := sl_law_2) (sv_set (i := 10) (fun (s : S_law) t => { s with v_chain := t }) (fun _ _ => rfl) nd (PV.fa (pv_callf (ok_binary_chain T) (hr.mono (by decide)) (by rfl) T.m_binary_chain T.F_binary_chain.kp T.b_binary_chain (av_a (pv_var (i := 3) (fun s : S_law => s.v_number) (fun _ => rfl)) av_nil) (fun _ => ⟨2, rfl, rfl⟩))))
  (bv_cons (sl'' := sl_law_3) (by
    have step : ∀ (e : Expr) (p' pos : Pos) (f : S_law → Option Int) (he : PV (cxOf CX0 P w K mg base N_law (Str.ofString "law") (defScope s_law) T.a_law cdv callerA [] s H E).nox sl_law_2 .a e f) (hs : swapsWith e (some (.Name "doubles" p')) pos.line ((cxOf CX0 P w K mg base N_law (Str.ofString "law") (defScope s_law) T.a_law cdv callerA [] s H E).nox).env = pure false), SV (ρ := Bool) (cxOf CX0 P w K mg base N_law (Str.ofString "law") (defScope s_law) T.a_law cdv callerA [] s H E).nox sl_law_2 sl_law_3 Kd.a (.Assign [.Name "doubles" p'] e pos) (fun g => (f g).bind fun t => some (.nx ({ g with v_doubles := t }))) := fun e p' pos f he hs => sv_set (i := 11) (fun (s : S_law) t => { s with v_doubles := t }) (fun _ _ => rfl) nd he (hs := hs)
    refine step _ _ _ _ ?he ?hs
    case hs => rfl
    case he => exact (pv_len (by rfl) T.z_len (PV.fb (pv_lc (own := [("k", 14)]) (js := [14]) (slb := (fun s : (S_law × Int) => ([some (Mo.b, enc s.1.v_script), some (Mo.a, enc s.1.v_draws), some (Mo.a, enc s.1.v_turn), some (Mo.a, enc s.1.v_number), some (Mo.a, enc s.1.v_row), some (Mo.a, enc s.1.v_told), some (Mo.a, enc s.1.v_one), some (Mo.a, enc s.1.v_two), some (Mo.a, enc s.1.v_ternary), some (Mo.a, enc s.1.v_base), some (Mo.a, enc s.1.v_chain), none, none, none, some (Mo.a, enc s.2), none, none, none] : Sl))) (set := fun (g : S_law) (t : Int) => ((g, t) : (S_law × Int))) nd (IV.ab (piv_range2 (by rfl) T.z_range (PV.ab pv_int) (PV.ab (pv_len (by rfl) T.z_len (PV.ab (pv_var (i := 10) (fun s : S_law => s.v_chain) (fun _ => rfl))))))) (blkOk_by (N := N_law) (sc := defScope s_law) (by decide +kernel)) (by decide) (fun _ _ _ _ _ => (gv_name (i := 14) (fun _ _ => rfl) nd)) (fun _ _ _ _ _ => pbs_one (pb_cmp c_eqS (PV.ab (pv_ix (PV.ab (pv_var (i := 10) (fun s : (S_law × Int) => s.1.v_chain) (fun _ => rfl))) (PV.ab (pv_var (i := 14) (fun s : (S_law × Int) => s.2) (fun _ => rfl))))) (PV.ab (pv_mul (PV.ab pv_int) (PV.ab (pv_ix (PV.ab (pv_var (i := 10) (fun s : (S_law × Int) => s.1.v_chain) (fun _ => rfl))) (PV.ab (pv_sub (PV.ab (pv_var (i := 14) (fun s : (S_law × Int) => s.2) (fun _ => rfl))) (PV.ab pv_int))))))))) (fun _ _ _ _ _ => (pv_var (i := 14) (fun s : (S_law × Int) => s.2) (fun _ => rfl)))))))
  (bv_cons (sl'' := sl_law_3) (sv_if (PBw.pb (pb_or (pb_cmp c_isntB (PV.ab (pv_calla (ok_is_chain T) (hr.mono (by decide)) (by rfl) T.m_is_chain T.F_is_chain.kp T.b_is_chain (av_a (pv_var (i := 10) (fun s : S_law => s.v_chain) (fun _ => rfl)) av_nil) (fun _ => ⟨3, rfl, rfl⟩))) (PV.ab pv_bool)) (pb_or (pb_cmp c_gt (PV.ab (pv_calla (ok_weight T) (hr.mono (by decide)) (by rfl) T.m_weight T.F_weight.kp T.b_weight (av_a (pv_var (i := 3) (fun s : S_law => s.v_number) (fun _ => rfl)) av_nil) (fun _ => ⟨1, rfl, rfl⟩))) (PV.ab (pv_len (by rfl) T.z_len (PV.ab (pv_var (i := 10) (fun s : S_law => s.v_chain) (fun _ => rfl)))))) (pb_or1 (pb_cmp c_lt (PV.ab (pv_var (i := 11) (fun s : S_law => s.v_doubles) (fun _ => rfl))) (PV.ab (pv_sub (PV.ab (pv_len (by rfl) T.z_len (PV.ab (pv_var (i := 4) (fun s : S_law => s.v_row) (fun _ => rfl))))) (PV.ab pv_int))))))))
  (bv_cons (sl'' := sl_law_3) (sv_ret pv_bool)
  (bv_nil (sl := sl_law_3) (h := fun s => s) (fun _ => Wk.refl _)))
  (bv_nil (h := fun (s : S_law) => (s : S_law)) (fun _ => (.s (.s (.s (.s (.s (.s (.s (.s (.s (.s (.s (.s (.s (.s (.s (.s (.s (.s .nil)))))))))))))))))))))
  (bv_cons (sl'' := sl_law_3) (sv_if (pb_cmp c_lt (PV.ab (pv_var (i := 3) (fun s : S_law => s.v_number) (fun _ => rfl))) (PV.ab pv_int))
  (bv_cons (sl'' := sl_law_8) (sv_set (i := 12) (fun (s : S_law) t => { s with v_places := t }) (fun _ _ => rfl) nd (pv_len (by rfl) T.z_len (PV.ab (pv_var (i := 4) (fun s : S_law => s.v_row) (fun _ => rfl)))))
  (bv_cons (sl'' := sl_law_7) (sv_set (i := 13) (fun (s : S_law) t => { s with v_some := t }) (fun _ _ => rfl) nd (PV.fa (pv_callf (ok_leanest T) (hr.mono (by decide)) (by rfl) T.m_leanest T.F_leanest.kp T.b_leanest (av_a (pv_var (i := 3) (fun s : S_law => s.v_number) (fun _ => rfl)) (av_a (pv_var (i := 12) (fun s : S_law => s.v_places) (fun _ => rfl)) av_nil)) (fun _ => ⟨3, rfl, rfl⟩))))
  (bv_cons (sl'' := sl_law_7) (sv_if (PBw.pb (pb_or (pb_cmp (c_nin (hu65 hr)) (PV.ab (pv_var (i := 4) (fun s : S_law => s.v_row) (fun _ => rfl))) (PV.ab (pv_var (i := 13) (fun s : S_law => s.v_some) (fun _ => rfl)))) (pb_or1 (pb_cmp (c_neD (hu64 hr)) (PV.fb (pv_lc (own := [("form", 17)]) (js := [17]) (slb := (fun s : (S_law × (List Int)) => ([some (Mo.b, enc s.1.v_script), some (Mo.a, enc s.1.v_draws), some (Mo.a, enc s.1.v_turn), some (Mo.a, enc s.1.v_number), some (Mo.a, enc s.1.v_row), some (Mo.a, enc s.1.v_told), some (Mo.a, enc s.1.v_one), some (Mo.a, enc s.1.v_two), some (Mo.a, enc s.1.v_ternary), some (Mo.a, enc s.1.v_base), some (Mo.a, enc s.1.v_chain), some (Mo.a, enc s.1.v_doubles), some (Mo.a, enc s.1.v_places), some (Mo.a, enc s.1.v_some), none, none, none, some (Mo.a, enc s.2)] : Sl))) (set := fun (g : S_law) (t : (List Int)) => ((g, t) : (S_law × (List Int)))) nd (IV.ab (piv_list (PV.fa (pv_callf (ok_forms T) (hr.mono (by decide)) (by rfl) T.m_forms T.F_forms.kp T.b_forms (av_a (pv_var (i := 3) (fun s : S_law => s.v_number) (fun _ => rfl)) (av_a (pv_var (i := 12) (fun s : S_law => s.v_places) (fun _ => rfl)) av_nil)) (fun _ => ⟨0, rfl, rfl⟩))))) (blkOk_by (N := N_law) (sc := defScope s_law) (by decide +kernel)) (by decide) (fun _ _ _ _ _ => (gv_name (i := 17) (fun _ _ => rfl) nd)) (fun _ _ _ _ _ => pbs_one (pb_cmp c_lt (PV.ab (pv_len (by rfl) T.z_len (PV.fb (pv_lc (own := [("digit", 16)]) (js := [16]) (slb := (fun s : ((S_law × (List Int)) × Int) => ([some (Mo.b, enc s.1.1.v_script), some (Mo.a, enc s.1.1.v_draws), some (Mo.a, enc s.1.1.v_turn), some (Mo.a, enc s.1.1.v_number), some (Mo.a, enc s.1.1.v_row), some (Mo.a, enc s.1.1.v_told), some (Mo.a, enc s.1.1.v_one), some (Mo.a, enc s.1.1.v_two), some (Mo.a, enc s.1.1.v_ternary), some (Mo.a, enc s.1.1.v_base), some (Mo.a, enc s.1.1.v_chain), some (Mo.a, enc s.1.1.v_doubles), some (Mo.a, enc s.1.1.v_places), some (Mo.a, enc s.1.1.v_some), none, none, some (Mo.a, enc s.2), some (Mo.a, enc s.1.2)] : Sl))) (set := fun (g : (S_law × (List Int))) (t : Int) => ((g, t) : ((S_law × (List Int)) × Int))) nd (IV.ab (piv_list (pv_var (i := 17) (fun s : (S_law × (List Int)) => s.2) (fun _ => rfl)))) (blkOk_nf (N := N_law) (by decide +kernel)) (by decide) (fun _ _ _ _ _ => (gv_name (i := 16) (fun _ _ => rfl) nd)) (fun _ _ _ _ _ => pbs_one (pb_cmp c_neS (PV.ab (pv_var (i := 16) (fun s : ((S_law × (List Int)) × Int) => s.2) (fun _ => rfl))) (PV.ab pv_int))) (fun _ _ _ _ _ => (pv_var (i := 16) (fun s : ((S_law × (List Int)) × Int) => s.2) (fun _ => rfl))))))) (PV.ab (pv_calla (ok_weight T) (hr.mono (by decide)) (by rfl) T.m_weight T.F_weight.kp T.b_weight (av_a (pv_var (i := 3) (fun s : (S_law × (List Int)) => s.1.v_number) (fun _ => rfl)) av_nil) (fun _ => ⟨1, rfl, rfl⟩))))) (fun _ _ _ _ _ => (pv_var (i := 17) (fun s : (S_law × (List Int)) => s.2) (fun _ => rfl))))) (PV.fb (pv_lst (pal_nil (τ := (List Int)))))))))
  (bv_cons (sl'' := sl_law_7) (sv_ret pv_bool)
  (bv_nil (sl := sl_law_7) (h := fun s => s) (fun _ => Wk.refl _)))
  (bv_nil (h := fun (s : S_law) => (s : S_law)) (fun _ => (.s (.s (.s (.s (.s (.s (.s (.s (.s (.s (.s (.s (.s (.s (.s (.s (.s (.s .nil)))))))))))))))))))))
  (bv_nil (h := fun (s : S_law) => ({ s with v_places := 0, v_some := [] } : S_law)) (fun _ => (.s (.s (.s (.s (.s (.s (.s (.s (.s (.s (.s (.s (.d (.d (.s (.s (.s (.s .nil)))))))))))))))))))))))
  (bv_nil (h := fun (s : S_law) => (s : S_law)) (fun _ => (.s (.s (.s (.s (.s (.s (.s (.s (.s (.s (.s (.s (.s (.s (.s (.s (.s (.s .nil)))))))))))))))))))))
  (bv_nil (h := fun (s : S_law) => ({ s with v_turn := 0, v_number := 0, v_row := [], v_told := [], v_one := [], v_two := [], v_ternary := [], v_base := 0, v_chain := [], v_doubles := 0 } : S_law)) (fun _ => (.s (.s (.d (.d (.d (.d (.d (.d (.d (.d (.d (.d (.s (.s (.s (.s (.s (.s .nil)))))))))))))))))))))))))))))))))))
  (bv_cons (sl'' := sl_law_12) (sv_ret pv_bool)
  (bv_nil (sl := sl_law_12) (h := fun s => s) (fun _ => Wk.refl _))))))
theorem mk_top {h : Heap} {fa : Addr} (X : K.In h) (G : h.Ns mainGlobals mg) (hfa : mg "law" = some (.ref fa))
    {x__law_draws : Addr} {od__law_draws an__law_draws : Option Addr} {osl__law_draws : Array (Option Value)} {oc__law_draws kV__law_draws dc__law_draws pm__law_draws cd__law_draws ct__law_draws : Value}
    (a__law_draws : PySem.W.nsIn K mainGlobals "_law_draws" = some (some (.ref x__law_draws))) (l__law_draws : K.lookup x__law_draws = some ⟨oc__law_draws, od__law_draws, .func (PySem.W.fnOf "_law_draws" "_law_draws" (defArgs s__law_draws) (defBody s__law_draws) (defScope s__law_draws) .none kV__law_draws dc__law_draws pm__law_draws an__law_draws cd__law_draws ct__law_draws), osl__law_draws⟩) (c__law_draws : PySem.W.codeIn K cd__law_draws "_law_draws" = true) (k__law_draws : PySem.W.keepIn K (.ref x__law_draws) = true)
    {x_lean_row : Addr} {od_lean_row an_lean_row : Option Addr} {osl_lean_row : Array (Option Value)} {oc_lean_row kV_lean_row dc_lean_row pm_lean_row cd_lean_row ct_lean_row : Value}
    (a_lean_row : PySem.W.nsIn K mainGlobals "lean_row" = some (some (.ref x_lean_row))) (l_lean_row : K.lookup x_lean_row = some ⟨oc_lean_row, od_lean_row, .func (PySem.W.fnOf "lean_row" "lean_row" (defArgs s_lean_row) (defBody s_lean_row) (defScope s_lean_row) .none kV_lean_row dc_lean_row pm_lean_row an_lean_row cd_lean_row ct_lean_row), osl_lean_row⟩) (c_lean_row : PySem.W.codeIn K cd_lean_row "lean_row" = true) (k_lean_row : PySem.W.keepIn K (.ref x_lean_row) = true)
    {x_weight : Addr} {od_weight an_weight : Option Addr} {osl_weight : Array (Option Value)} {oc_weight kV_weight dc_weight pm_weight cd_weight ct_weight : Value}
    (a_weight : PySem.W.nsIn K mainGlobals "weight" = some (some (.ref x_weight))) (l_weight : K.lookup x_weight = some ⟨oc_weight, od_weight, .func (PySem.W.fnOf "weight" "weight" (defArgs s_weight) (defBody s_weight) (defScope s_weight) .none kV_weight dc_weight pm_weight an_weight cd_weight ct_weight), osl_weight⟩) (c_weight : PySem.W.codeIn K cd_weight "weight" = true) (k_weight : PySem.W.keepIn K (.ref x_weight) = true)
    {x_digits_of_rows : Addr} {od_digits_of_rows an_digits_of_rows : Option Addr} {osl_digits_of_rows : Array (Option Value)} {oc_digits_of_rows kV_digits_of_rows dc_digits_of_rows pm_digits_of_rows cd_digits_of_rows ct_digits_of_rows : Value}
    (a_digits_of_rows : PySem.W.nsIn K mainGlobals "digits_of_rows" = some (some (.ref x_digits_of_rows))) (l_digits_of_rows : K.lookup x_digits_of_rows = some ⟨oc_digits_of_rows, od_digits_of_rows, .func (PySem.W.fnOf "digits_of" "digits_of" (defArgs s_digits_of_rows) (defBody s_digits_of_rows) (defScope s_digits_of_rows) .none kV_digits_of_rows dc_digits_of_rows pm_digits_of_rows an_digits_of_rows cd_digits_of_rows ct_digits_of_rows), osl_digits_of_rows⟩) (c_digits_of_rows : PySem.W.codeIn K cd_digits_of_rows "digits_of" = true) (k_digits_of_rows : PySem.W.keepIn K (.ref x_digits_of_rows) = true)
    {x_pans : Addr} {od_pans an_pans : Option Addr} {osl_pans : Array (Option Value)} {oc_pans kV_pans dc_pans pm_pans cd_pans ct_pans : Value}
    (a_pans : PySem.W.nsIn K mainGlobals "pans" = some (some (.ref x_pans))) (l_pans : K.lookup x_pans = some ⟨oc_pans, od_pans, .func (PySem.W.fnOf "pans" "pans" (defArgs s_pans) (defBody s_pans) (defScope s_pans) .none kV_pans dc_pans pm_pans an_pans cd_pans ct_pans), osl_pans⟩) (c_pans : PySem.W.codeIn K cd_pans "pans" = true) (k_pans : PySem.W.keepIn K (.ref x_pans) = true)
    {x_check_base : Addr} {od_check_base an_check_base : Option Addr} {osl_check_base : Array (Option Value)} {oc_check_base kV_check_base dc_check_base pm_check_base cd_check_base ct_check_base : Value}
    (a_check_base : PySem.W.nsIn K mainGlobals "check_base" = some (some (.ref x_check_base))) (l_check_base : K.lookup x_check_base = some ⟨oc_check_base, od_check_base, .func (PySem.W.fnOf "check_base" "check_base" (defArgs s_check_base) (defBody s_check_base) (defScope s_check_base) .none kV_check_base dc_check_base pm_check_base an_check_base cd_check_base ct_check_base), osl_check_base⟩) (c_check_base : PySem.W.codeIn K cd_check_base "check_base" = true) (k_check_base : PySem.W.keepIn K (.ref x_check_base) = true)
    {x_row_of : Addr} {od_row_of an_row_of : Option Addr} {osl_row_of : Array (Option Value)} {oc_row_of kV_row_of dc_row_of pm_row_of cd_row_of ct_row_of : Value}
    (a_row_of : PySem.W.nsIn K mainGlobals "row_of" = some (some (.ref x_row_of))) (l_row_of : K.lookup x_row_of = some ⟨oc_row_of, od_row_of, .func (PySem.W.fnOf "row_of" "row_of" (defArgs s_row_of) (defBody s_row_of) (defScope s_row_of) .none kV_row_of dc_row_of pm_row_of an_row_of cd_row_of ct_row_of), osl_row_of⟩) (c_row_of : PySem.W.codeIn K cd_row_of "row_of" = true) (k_row_of : PySem.W.keepIn K (.ref x_row_of) = true)
    {x_check_number : Addr} {od_check_number an_check_number : Option Addr} {osl_check_number : Array (Option Value)} {oc_check_number kV_check_number dc_check_number pm_check_number cd_check_number ct_check_number : Value}
    (a_check_number : PySem.W.nsIn K mainGlobals "check_number" = some (some (.ref x_check_number))) (l_check_number : K.lookup x_check_number = some ⟨oc_check_number, od_check_number, .func (PySem.W.fnOf "check_number" "check_number" (defArgs s_check_number) (defBody s_check_number) (defScope s_check_number) .none kV_check_number dc_check_number pm_check_number an_check_number cd_check_number ct_check_number), osl_check_number⟩) (c_check_number : PySem.W.codeIn K cd_check_number "check_number" = true) (k_check_number : PySem.W.keepIn K (.ref x_check_number) = true)
    {x_digits_of_numerals : Addr} {od_digits_of_numerals an_digits_of_numerals : Option Addr} {osl_digits_of_numerals : Array (Option Value)} {oc_digits_of_numerals kV_digits_of_numerals dc_digits_of_numerals pm_digits_of_numerals cd_digits_of_numerals ct_digits_of_numerals : Value}
    (a_digits_of_numerals : PySem.W.nsIn K mainGlobals "digits_of_numerals" = some (some (.ref x_digits_of_numerals))) (l_digits_of_numerals : K.lookup x_digits_of_numerals = some ⟨oc_digits_of_numerals, od_digits_of_numerals, .func (PySem.W.fnOf "digits_of" "digits_of" (defArgs s_digits_of_numerals) (defBody s_digits_of_numerals) (defScope s_digits_of_numerals) .none kV_digits_of_numerals dc_digits_of_numerals pm_digits_of_numerals an_digits_of_numerals cd_digits_of_numerals ct_digits_of_numerals), osl_digits_of_numerals⟩) (c_digits_of_numerals : PySem.W.codeIn K cd_digits_of_numerals "digits_of" = true) (k_digits_of_numerals : PySem.W.keepIn K (.ref x_digits_of_numerals) = true)
    {x_binary_chain : Addr} {od_binary_chain an_binary_chain : Option Addr} {osl_binary_chain : Array (Option Value)} {oc_binary_chain kV_binary_chain dc_binary_chain pm_binary_chain cd_binary_chain ct_binary_chain : Value}
    (a_binary_chain : PySem.W.nsIn K mainGlobals "binary_chain" = some (some (.ref x_binary_chain))) (l_binary_chain : K.lookup x_binary_chain = some ⟨oc_binary_chain, od_binary_chain, .func (PySem.W.fnOf "binary_chain" "binary_chain" (defArgs s_binary_chain) (defBody s_binary_chain) (defScope s_binary_chain) .none kV_binary_chain dc_binary_chain pm_binary_chain an_binary_chain cd_binary_chain ct_binary_chain), osl_binary_chain⟩) (c_binary_chain : PySem.W.codeIn K cd_binary_chain "binary_chain" = true) (k_binary_chain : PySem.W.keepIn K (.ref x_binary_chain) = true)
    {x__law_mix : Addr} {od__law_mix an__law_mix : Option Addr} {osl__law_mix : Array (Option Value)} {oc__law_mix kV__law_mix dc__law_mix pm__law_mix cd__law_mix ct__law_mix : Value}
    (a__law_mix : PySem.W.nsIn K mainGlobals "_law_mix" = some (some (.ref x__law_mix))) (l__law_mix : K.lookup x__law_mix = some ⟨oc__law_mix, od__law_mix, .func (PySem.W.fnOf "_law_mix" "_law_mix" (defArgs s__law_mix) (defBody s__law_mix) (defScope s__law_mix) .none kV__law_mix dc__law_mix pm__law_mix an__law_mix cd__law_mix ct__law_mix), osl__law_mix⟩) (c__law_mix : PySem.W.codeIn K cd__law_mix "_law_mix" = true) (k__law_mix : PySem.W.keepIn K (.ref x__law_mix) = true)
    {x_shifts_of : Addr} {od_shifts_of an_shifts_of : Option Addr} {osl_shifts_of : Array (Option Value)} {oc_shifts_of kV_shifts_of dc_shifts_of pm_shifts_of cd_shifts_of ct_shifts_of : Value}
    (a_shifts_of : PySem.W.nsIn K mainGlobals "shifts_of" = some (some (.ref x_shifts_of))) (l_shifts_of : K.lookup x_shifts_of = some ⟨oc_shifts_of, od_shifts_of, .func (PySem.W.fnOf "shifts_of" "shifts_of" (defArgs s_shifts_of) (defBody s_shifts_of) (defScope s_shifts_of) .none kV_shifts_of dc_shifts_of pm_shifts_of an_shifts_of cd_shifts_of ct_shifts_of), osl_shifts_of⟩) (c_shifts_of : PySem.W.codeIn K cd_shifts_of "shifts_of" = true) (k_shifts_of : PySem.W.keepIn K (.ref x_shifts_of) = true)
    {x_shifts : Addr} {od_shifts an_shifts : Option Addr} {osl_shifts : Array (Option Value)} {oc_shifts kV_shifts dc_shifts pm_shifts cd_shifts ct_shifts : Value}
    (a_shifts : PySem.W.nsIn K mainGlobals "shifts" = some (some (.ref x_shifts))) (l_shifts : K.lookup x_shifts = some ⟨oc_shifts, od_shifts, .func (PySem.W.fnOf "shifts" "shifts" (defArgs s_shifts) (defBody s_shifts) (defScope s_shifts) .none kV_shifts dc_shifts pm_shifts an_shifts cd_shifts ct_shifts), osl_shifts⟩) (c_shifts : PySem.W.codeIn K cd_shifts "shifts" = true) (k_shifts : PySem.W.keepIn K (.ref x_shifts) = true)
    {x_check_places : Addr} {od_check_places an_check_places : Option Addr} {osl_check_places : Array (Option Value)} {oc_check_places kV_check_places dc_check_places pm_check_places cd_check_places ct_check_places : Value}
    (a_check_places : PySem.W.nsIn K mainGlobals "check_places" = some (some (.ref x_check_places))) (l_check_places : K.lookup x_check_places = some ⟨oc_check_places, od_check_places, .func (PySem.W.fnOf "check_places" "check_places" (defArgs s_check_places) (defBody s_check_places) (defScope s_check_places) .none kV_check_places dc_check_places pm_check_places an_check_places cd_check_places ct_check_places), osl_check_places⟩) (c_check_places : PySem.W.codeIn K cd_check_places "check_places" = true) (k_check_places : PySem.W.keepIn K (.ref x_check_places) = true)
    {x_forms_of : Addr} {od_forms_of an_forms_of : Option Addr} {osl_forms_of : Array (Option Value)} {oc_forms_of kV_forms_of dc_forms_of pm_forms_of cd_forms_of ct_forms_of : Value}
    (a_forms_of : PySem.W.nsIn K mainGlobals "forms_of" = some (some (.ref x_forms_of))) (l_forms_of : K.lookup x_forms_of = some ⟨oc_forms_of, od_forms_of, .func (PySem.W.fnOf "forms_of" "forms_of" (defArgs s_forms_of) (defBody s_forms_of) (defScope s_forms_of) .none kV_forms_of dc_forms_of pm_forms_of an_forms_of cd_forms_of ct_forms_of), osl_forms_of⟩) (c_forms_of : PySem.W.codeIn K cd_forms_of "forms_of" = true) (k_forms_of : PySem.W.keepIn K (.ref x_forms_of) = true)
    {x_forms : Addr} {od_forms an_forms : Option Addr} {osl_forms : Array (Option Value)} {oc_forms kV_forms dc_forms pm_forms cd_forms ct_forms : Value}
    (a_forms : PySem.W.nsIn K mainGlobals "forms" = some (some (.ref x_forms))) (l_forms : K.lookup x_forms = some ⟨oc_forms, od_forms, .func (PySem.W.fnOf "forms" "forms" (defArgs s_forms) (defBody s_forms) (defScope s_forms) .none kV_forms dc_forms pm_forms an_forms cd_forms ct_forms), osl_forms⟩) (c_forms : PySem.W.codeIn K cd_forms "forms" = true) (k_forms : PySem.W.keepIn K (.ref x_forms) = true)
    {x_leanest : Addr} {od_leanest an_leanest : Option Addr} {osl_leanest : Array (Option Value)} {oc_leanest kV_leanest dc_leanest pm_leanest cd_leanest ct_leanest : Value}
    (a_leanest : PySem.W.nsIn K mainGlobals "leanest" = some (some (.ref x_leanest))) (l_leanest : K.lookup x_leanest = some ⟨oc_leanest, od_leanest, .func (PySem.W.fnOf "leanest" "leanest" (defArgs s_leanest) (defBody s_leanest) (defScope s_leanest) .none kV_leanest dc_leanest pm_leanest an_leanest cd_leanest ct_leanest), osl_leanest⟩) (c_leanest : PySem.W.codeIn K cd_leanest "leanest" = true) (k_leanest : PySem.W.keepIn K (.ref x_leanest) = true)
    {x_is_lean : Addr} {od_is_lean an_is_lean : Option Addr} {osl_is_lean : Array (Option Value)} {oc_is_lean kV_is_lean dc_is_lean pm_is_lean cd_is_lean ct_is_lean : Value}
    (a_is_lean : PySem.W.nsIn K mainGlobals "is_lean" = some (some (.ref x_is_lean))) (l_is_lean : K.lookup x_is_lean = some ⟨oc_is_lean, od_is_lean, .func (PySem.W.fnOf "is_lean" "is_lean" (defArgs s_is_lean) (defBody s_is_lean) (defScope s_is_lean) .none kV_is_lean dc_is_lean pm_is_lean an_is_lean cd_is_lean ct_is_lean), osl_is_lean⟩) (c_is_lean : PySem.W.codeIn K cd_is_lean "is_lean" = true) (k_is_lean : PySem.W.keepIn K (.ref x_is_lean) = true)
    {x_check_row : Addr} {od_check_row an_check_row : Option Addr} {osl_check_row : Array (Option Value)} {oc_check_row kV_check_row dc_check_row pm_check_row cd_check_row ct_check_row : Value}
    (a_check_row : PySem.W.nsIn K mainGlobals "check_row" = some (some (.ref x_check_row))) (l_check_row : K.lookup x_check_row = some ⟨oc_check_row, od_check_row, .func (PySem.W.fnOf "check_row" "check_row" (defArgs s_check_row) (defBody s_check_row) (defScope s_check_row) .none kV_check_row dc_check_row pm_check_row an_check_row cd_check_row ct_check_row), osl_check_row⟩) (c_check_row : PySem.W.codeIn K cd_check_row "check_row" = true) (k_check_row : PySem.W.keepIn K (.ref x_check_row) = true)
    {x_worth_of : Addr} {od_worth_of an_worth_of : Option Addr} {osl_worth_of : Array (Option Value)} {oc_worth_of kV_worth_of dc_worth_of pm_worth_of cd_worth_of ct_worth_of : Value}
    (a_worth_of : PySem.W.nsIn K mainGlobals "worth_of" = some (some (.ref x_worth_of))) (l_worth_of : K.lookup x_worth_of = some ⟨oc_worth_of, od_worth_of, .func (PySem.W.fnOf "worth_of" "worth_of" (defArgs s_worth_of) (defBody s_worth_of) (defScope s_worth_of) .none kV_worth_of dc_worth_of pm_worth_of an_worth_of cd_worth_of ct_worth_of), osl_worth_of⟩) (c_worth_of : PySem.W.codeIn K cd_worth_of "worth_of" = true) (k_worth_of : PySem.W.keepIn K (.ref x_worth_of) = true)
    {x_number_of : Addr} {od_number_of an_number_of : Option Addr} {osl_number_of : Array (Option Value)} {oc_number_of kV_number_of dc_number_of pm_number_of cd_number_of ct_number_of : Value}
    (a_number_of : PySem.W.nsIn K mainGlobals "number_of" = some (some (.ref x_number_of))) (l_number_of : K.lookup x_number_of = some ⟨oc_number_of, od_number_of, .func (PySem.W.fnOf "number_of" "number_of" (defArgs s_number_of) (defBody s_number_of) (defScope s_number_of) .none kV_number_of dc_number_of pm_number_of an_number_of cd_number_of ct_number_of), osl_number_of⟩) (c_number_of : PySem.W.codeIn K cd_number_of "number_of" = true) (k_number_of : PySem.W.keepIn K (.ref x_number_of) = true)
    {x_is_sum : Addr} {od_is_sum an_is_sum : Option Addr} {osl_is_sum : Array (Option Value)} {oc_is_sum kV_is_sum dc_is_sum pm_is_sum cd_is_sum ct_is_sum : Value}
    (a_is_sum : PySem.W.nsIn K mainGlobals "is_sum" = some (some (.ref x_is_sum))) (l_is_sum : K.lookup x_is_sum = some ⟨oc_is_sum, od_is_sum, .func (PySem.W.fnOf "is_sum" "is_sum" (defArgs s_is_sum) (defBody s_is_sum) (defScope s_is_sum) .none kV_is_sum dc_is_sum pm_is_sum an_is_sum cd_is_sum ct_is_sum), osl_is_sum⟩) (c_is_sum : PySem.W.codeIn K cd_is_sum "is_sum" = true) (k_is_sum : PySem.W.keepIn K (.ref x_is_sum) = true)
    {x_is_chain : Addr} {od_is_chain an_is_chain : Option Addr} {osl_is_chain : Array (Option Value)} {oc_is_chain kV_is_chain dc_is_chain pm_is_chain cd_is_chain ct_is_chain : Value}
    (a_is_chain : PySem.W.nsIn K mainGlobals "is_chain" = some (some (.ref x_is_chain))) (l_is_chain : K.lookup x_is_chain = some ⟨oc_is_chain, od_is_chain, .func (PySem.W.fnOf "is_chain" "is_chain" (defArgs s_is_chain) (defBody s_is_chain) (defScope s_is_chain) .none kV_is_chain dc_is_chain pm_is_chain an_is_chain cd_is_chain ct_is_chain), osl_is_chain⟩) (c_is_chain : PySem.W.codeIn K cd_is_chain "is_chain" = true) (k_is_chain : PySem.W.keepIn K (.ref x_is_chain) = true)
    {x_doubled : Addr} {od_doubled an_doubled : Option Addr} {osl_doubled : Array (Option Value)} {oc_doubled kV_doubled dc_doubled pm_doubled cd_doubled ct_doubled : Value}
    (a_doubled : PySem.W.nsIn K mainGlobals "doubled" = some (some (.ref x_doubled))) (l_doubled : K.lookup x_doubled = some ⟨oc_doubled, od_doubled, .func (PySem.W.fnOf "doubled" "doubled" (defArgs s_doubled) (defBody s_doubled) (defScope s_doubled) .none kV_doubled dc_doubled pm_doubled an_doubled cd_doubled ct_doubled), osl_doubled⟩) (c_doubled : PySem.W.codeIn K cd_doubled "doubled" = true) (k_doubled : PySem.W.keepIn K (.ref x_doubled) = true)
    {x_by_shifts : Addr} {od_by_shifts an_by_shifts : Option Addr} {osl_by_shifts : Array (Option Value)} {oc_by_shifts kV_by_shifts dc_by_shifts pm_by_shifts cd_by_shifts ct_by_shifts : Value}
    (a_by_shifts : PySem.W.nsIn K mainGlobals "by_shifts" = some (some (.ref x_by_shifts))) (l_by_shifts : K.lookup x_by_shifts = some ⟨oc_by_shifts, od_by_shifts, .func (PySem.W.fnOf "by_shifts" "by_shifts" (defArgs s_by_shifts) (defBody s_by_shifts) (defScope s_by_shifts) .none kV_by_shifts dc_by_shifts pm_by_shifts an_by_shifts cd_by_shifts ct_by_shifts), osl_by_shifts⟩) (c_by_shifts : PySem.W.codeIn K cd_by_shifts "by_shifts" = true) (k_by_shifts : PySem.W.keepIn K (.ref x_by_shifts) = true)
    {x_law : Addr} {od_law an_law : Option Addr} {osl_law : Array (Option Value)} {oc_law kV_law dc_law pm_law cd_law ct_law : Value}
    (a_law : PySem.W.nsIn K mainGlobals "law" = some (some (.ref x_law))) (l_law : K.lookup x_law = some ⟨oc_law, od_law, .func (PySem.W.fnOf "law" "law" (defArgs s_law) (defBody s_law) (defScope s_law) .none kV_law dc_law pm_law an_law cd_law ct_law), osl_law⟩) (c_law : PySem.W.codeIn K cd_law "law" = true) (k_law : PySem.W.keepIn K (.ref x_law) = true)
    (z_abs : PySem.W.nsIn K mainGlobals "abs" = some none)
    (z_all : PySem.W.nsIn K mainGlobals "all" = some none)
    (z_any : PySem.W.nsIn K mainGlobals "any" = some none)
    (z_enumerate : PySem.W.nsIn K mainGlobals "enumerate" = some none)
    (z_int : PySem.W.nsIn K mainGlobals "int" = some none)
    (z_len : PySem.W.nsIn K mainGlobals "len" = some none)
    (z_min : PySem.W.nsIn K mainGlobals "min" = some none)
    (z_range : PySem.W.nsIn K mainGlobals "range" = some none)
    (z_sorted : PySem.W.nsIn K mainGlobals "sorted" = some none)
    (z_sum : PySem.W.nsIn K mainGlobals "sum" = some none)
    (z_zip : PySem.W.nsIn K mainGlobals "zip" = some none)
    {t_LEAST_BASE : Tok} (q_LEAST_BASE : PySem.W.nsIn K mainGlobals "LEAST_BASE" = some (some (.int (3) t_LEAST_BASE)))
    {t_MOST_BASE : Tok} (q_MOST_BASE : PySem.W.nsIn K mainGlobals "MOST_BASE" = some (some (.int (35) t_MOST_BASE)))
    {t_MOST_BINARY : Tok} (q_MOST_BINARY : PySem.W.nsIn K mainGlobals "MOST_BINARY" = some (some (.int (1000000) t_MOST_BINARY)))
    {t_MOST_LISTED : Tok} (q_MOST_LISTED : PySem.W.nsIn K mainGlobals "MOST_LISTED" = some (some (.int (10) t_MOST_LISTED)))
    {t_MOST_PLACES : Tok} (q_MOST_PLACES : PySem.W.nsIn K mainGlobals "MOST_PLACES" = some (some (.int (60) t_MOST_PLACES)))
    {t0_SIGNED t1_SIGNED t2_SIGNED : Tok} {x_SIGNED : Addr} {od_SIGNED : Option Addr} {n_SIGNED : Nat} {sl_SIGNED : Array (Option Value)} (q_SIGNED : PySem.W.nsIn K mainGlobals "SIGNED" = some (some (.ref x_SIGNED))) (l_SIGNED : K.lookup x_SIGNED = some ⟨.type "tuple", od_SIGNED, .seq #[.int (-1) t0_SIGNED, .int (0) t1_SIGNED, .int (1) t2_SIGNED] n_SIGNED, sl_SIGNED⟩) :
    ∃ T : Top K mg, T.a_law = fa ∧ (∀ (s : Shared) (u : Value), BindsTo s T.d_law ⟨[u], []⟩ [("script", u)]) := by
  have e := hfa.symm.trans (PySem.W.mg_of X G a_law)
  refine ⟨{
    a__law_draws := x__law_draws, d__law_draws := PySem.W.fnOf "_law_draws" "_law_draws" (defArgs s__law_draws) (defBody s__law_draws) (defScope s__law_draws) .none kV__law_draws dc__law_draws pm__law_draws an__law_draws cd__law_draws ct__law_draws, F__law_draws := fun_mk l__law_draws c__law_draws k__law_draws, b__law_draws := (fun_mk (st := s__law_draws) l__law_draws c__law_draws k__law_draws).binds (ps := ["script"]) fun _ _ _ _ _ _ us hl => match us, hl with | [_], _ => rfl, m__law_draws := PySem.W.mg_of X G a__law_draws,
    a_lean_row := x_lean_row, d_lean_row := PySem.W.fnOf "lean_row" "lean_row" (defArgs s_lean_row) (defBody s_lean_row) (defScope s_lean_row) .none kV_lean_row dc_lean_row pm_lean_row an_lean_row cd_lean_row ct_lean_row, F_lean_row := fun_mk l_lean_row c_lean_row k_lean_row, b_lean_row := (fun_mk (st := s_lean_row) l_lean_row c_lean_row k_lean_row).binds (ps := ["number"]) fun _ _ _ _ _ _ us hl => match us, hl with | [_], _ => rfl, m_lean_row := PySem.W.mg_of X G a_lean_row,
    a_weight := x_weight, d_weight := PySem.W.fnOf "weight" "weight" (defArgs s_weight) (defBody s_weight) (defScope s_weight) .none kV_weight dc_weight pm_weight an_weight cd_weight ct_weight, F_weight := fun_mk l_weight c_weight k_weight, b_weight := (fun_mk (st := s_weight) l_weight c_weight k_weight).binds (ps := ["number"]) fun _ _ _ _ _ _ us hl => match us, hl with | [_], _ => rfl, m_weight := PySem.W.mg_of X G a_weight,
    a_digits_of_rows := x_digits_of_rows, d_digits_of_rows := PySem.W.fnOf "digits_of" "digits_of" (defArgs s_digits_of_rows) (defBody s_digits_of_rows) (defScope s_digits_of_rows) .none kV_digits_of_rows dc_digits_of_rows pm_digits_of_rows an_digits_of_rows cd_digits_of_rows ct_digits_of_rows, F_digits_of_rows := fun_mk l_digits_of_rows c_digits_of_rows k_digits_of_rows, b_digits_of_rows := (fun_mk (st := s_digits_of_rows) l_digits_of_rows c_digits_of_rows k_digits_of_rows).binds (ps := ["number", "base"]) fun _ _ _ _ _ _ us hl => match us, hl with | [_, _], _ => rfl, m_digits_of_rows := PySem.W.mg_of X G a_digits_of_rows,
    a_pans := x_pans, d_pans := PySem.W.fnOf "pans" "pans" (defArgs s_pans) (defBody s_pans) (defScope s_pans) .none kV_pans dc_pans pm_pans an_pans cd_pans ct_pans, F_pans := fun_mk l_pans c_pans k_pans, b_pans := (fun_mk (st := s_pans) l_pans c_pans k_pans).binds (ps := ["number"]) fun _ _ _ _ _ _ us hl => match us, hl with | [_], _ => rfl, m_pans := PySem.W.mg_of X G a_pans,
    a_check_base := x_check_base, d_check_base := PySem.W.fnOf "check_base" "check_base" (defArgs s_check_base) (defBody s_check_base) (defScope s_check_base) .none kV_check_base dc_check_base pm_check_base an_check_base cd_check_base ct_check_base, F_check_base := fun_mk l_check_base c_check_base k_check_base, b_check_base := (fun_mk (st := s_check_base) l_check_base c_check_base k_check_base).binds (ps := ["base"]) fun _ _ _ _ _ _ us hl => match us, hl with | [_], _ => rfl, m_check_base := PySem.W.mg_of X G a_check_base,
    a_row_of := x_row_of, d_row_of := PySem.W.fnOf "row_of" "row_of" (defArgs s_row_of) (defBody s_row_of) (defScope s_row_of) .none kV_row_of dc_row_of pm_row_of an_row_of cd_row_of ct_row_of, F_row_of := fun_mk l_row_of c_row_of k_row_of, b_row_of := (fun_mk (st := s_row_of) l_row_of c_row_of k_row_of).binds (ps := ["number", "base"]) fun _ _ _ _ _ _ us hl => match us, hl with | [_, _], _ => rfl, m_row_of := PySem.W.mg_of X G a_row_of,
    a_check_number := x_check_number, d_check_number := PySem.W.fnOf "check_number" "check_number" (defArgs s_check_number) (defBody s_check_number) (defScope s_check_number) .none kV_check_number dc_check_number pm_check_number an_check_number cd_check_number ct_check_number, F_check_number := fun_mk l_check_number c_check_number k_check_number, b_check_number := (fun_mk (st := s_check_number) l_check_number c_check_number k_check_number).binds (ps := ["number", "most"]) fun _ _ _ _ _ _ us hl => match us, hl with | [_, _], _ => rfl, m_check_number := PySem.W.mg_of X G a_check_number,
    a_digits_of_numerals := x_digits_of_numerals, d_digits_of_numerals := PySem.W.fnOf "digits_of" "digits_of" (defArgs s_digits_of_numerals) (defBody s_digits_of_numerals) (defScope s_digits_of_numerals) .none kV_digits_of_numerals dc_digits_of_numerals pm_digits_of_numerals an_digits_of_numerals cd_digits_of_numerals ct_digits_of_numerals, F_digits_of_numerals := fun_mk l_digits_of_numerals c_digits_of_numerals k_digits_of_numerals, b_digits_of_numerals := (fun_mk (st := s_digits_of_numerals) l_digits_of_numerals c_digits_of_numerals k_digits_of_numerals).binds (ps := ["number", "base"]) fun _ _ _ _ _ _ us hl => match us, hl with | [_, _], _ => rfl, m_digits_of_numerals := PySem.W.mg_of X G a_digits_of_numerals,
    a_binary_chain := x_binary_chain, d_binary_chain := PySem.W.fnOf "binary_chain" "binary_chain" (defArgs s_binary_chain) (defBody s_binary_chain) (defScope s_binary_chain) .none kV_binary_chain dc_binary_chain pm_binary_chain an_binary_chain cd_binary_chain ct_binary_chain, F_binary_chain := fun_mk l_binary_chain c_binary_chain k_binary_chain, b_binary_chain := (fun_mk (st := s_binary_chain) l_binary_chain c_binary_chain k_binary_chain).binds (ps := ["number"]) fun _ _ _ _ _ _ us hl => match us, hl with | [_], _ => rfl, m_binary_chain := PySem.W.mg_of X G a_binary_chain,
    a__law_mix := x__law_mix, d__law_mix := PySem.W.fnOf "_law_mix" "_law_mix" (defArgs s__law_mix) (defBody s__law_mix) (defScope s__law_mix) .none kV__law_mix dc__law_mix pm__law_mix an__law_mix cd__law_mix ct__law_mix, F__law_mix := fun_mk l__law_mix c__law_mix k__law_mix, b__law_mix := (fun_mk (st := s__law_mix) l__law_mix c__law_mix k__law_mix).binds (ps := ["draws", "k", "many"]) fun _ _ _ _ _ _ us hl => match us, hl with | [_, _, _], _ => rfl, m__law_mix := PySem.W.mg_of X G a__law_mix,
    a_shifts_of := x_shifts_of, d_shifts_of := PySem.W.fnOf "shifts_of" "shifts_of" (defArgs s_shifts_of) (defBody s_shifts_of) (defScope s_shifts_of) .none kV_shifts_of dc_shifts_of pm_shifts_of an_shifts_of cd_shifts_of ct_shifts_of, F_shifts_of := fun_mk l_shifts_of c_shifts_of k_shifts_of, b_shifts_of := (fun_mk (st := s_shifts_of) l_shifts_of c_shifts_of k_shifts_of).binds (ps := ["number"]) fun _ _ _ _ _ _ us hl => match us, hl with | [_], _ => rfl, m_shifts_of := PySem.W.mg_of X G a_shifts_of,
    a_shifts := x_shifts, d_shifts := PySem.W.fnOf "shifts" "shifts" (defArgs s_shifts) (defBody s_shifts) (defScope s_shifts) .none kV_shifts dc_shifts pm_shifts an_shifts cd_shifts ct_shifts, F_shifts := fun_mk l_shifts c_shifts k_shifts, b_shifts := (fun_mk (st := s_shifts) l_shifts c_shifts k_shifts).binds (ps := ["number"]) fun _ _ _ _ _ _ us hl => match us, hl with | [_], _ => rfl, m_shifts := PySem.W.mg_of X G a_shifts,
    a_check_places := x_check_places, d_check_places := PySem.W.fnOf "check_places" "check_places" (defArgs s_check_places) (defBody s_check_places) (defScope s_check_places) .none kV_check_places dc_check_places pm_check_places an_check_places cd_check_places ct_check_places, F_check_places := fun_mk l_check_places c_check_places k_check_places, b_check_places := (fun_mk (st := s_check_places) l_check_places c_check_places k_check_places).binds (ps := ["places", "most"]) fun _ _ _ _ _ _ us hl => match us, hl with | [_, _], _ => rfl, m_check_places := PySem.W.mg_of X G a_check_places,
    a_forms_of := x_forms_of, d_forms_of := PySem.W.fnOf "forms_of" "forms_of" (defArgs s_forms_of) (defBody s_forms_of) (defScope s_forms_of) .none kV_forms_of dc_forms_of pm_forms_of an_forms_of cd_forms_of ct_forms_of, F_forms_of := fun_mk l_forms_of c_forms_of k_forms_of, b_forms_of := (fun_mk (st := s_forms_of) l_forms_of c_forms_of k_forms_of).binds (ps := ["number", "places"]) fun _ _ _ _ _ _ us hl => match us, hl with | [_, _], _ => rfl, m_forms_of := PySem.W.mg_of X G a_forms_of,
    a_forms := x_forms, d_forms := PySem.W.fnOf "forms" "forms" (defArgs s_forms) (defBody s_forms) (defScope s_forms) .none kV_forms dc_forms pm_forms an_forms cd_forms ct_forms, F_forms := fun_mk l_forms c_forms k_forms, b_forms := (fun_mk (st := s_forms) l_forms c_forms k_forms).binds (ps := ["number", "places"]) fun _ _ _ _ _ _ us hl => match us, hl with | [_, _], _ => rfl, m_forms := PySem.W.mg_of X G a_forms,
    a_leanest := x_leanest, d_leanest := PySem.W.fnOf "leanest" "leanest" (defArgs s_leanest) (defBody s_leanest) (defScope s_leanest) .none kV_leanest dc_leanest pm_leanest an_leanest cd_leanest ct_leanest, F_leanest := fun_mk l_leanest c_leanest k_leanest, b_leanest := (fun_mk (st := s_leanest) l_leanest c_leanest k_leanest).binds (ps := ["number", "places"]) fun _ _ _ _ _ _ us hl => match us, hl with | [_, _], _ => rfl, m_leanest := PySem.W.mg_of X G a_leanest,
    a_is_lean := x_is_lean, d_is_lean := PySem.W.fnOf "is_lean" "is_lean" (defArgs s_is_lean) (defBody s_is_lean) (defScope s_is_lean) .none kV_is_lean dc_is_lean pm_is_lean an_is_lean cd_is_lean ct_is_lean, F_is_lean := fun_mk l_is_lean c_is_lean k_is_lean, b_is_lean := (fun_mk (st := s_is_lean) l_is_lean c_is_lean k_is_lean).binds (ps := ["row"]) fun _ _ _ _ _ _ us hl => match us, hl with | [_], _ => rfl, m_is_lean := PySem.W.mg_of X G a_is_lean,
    a_check_row := x_check_row, d_check_row := PySem.W.fnOf "check_row" "check_row" (defArgs s_check_row) (defBody s_check_row) (defScope s_check_row) .none kV_check_row dc_check_row pm_check_row an_check_row cd_check_row ct_check_row, F_check_row := fun_mk l_check_row c_check_row k_check_row, b_check_row := (fun_mk (st := s_check_row) l_check_row c_check_row k_check_row).binds (ps := ["row", "base"]) fun _ _ _ _ _ _ us hl => match us, hl with | [_, _], _ => rfl, m_check_row := PySem.W.mg_of X G a_check_row,
    a_worth_of := x_worth_of, d_worth_of := PySem.W.fnOf "worth_of" "worth_of" (defArgs s_worth_of) (defBody s_worth_of) (defScope s_worth_of) .none kV_worth_of dc_worth_of pm_worth_of an_worth_of cd_worth_of ct_worth_of, F_worth_of := fun_mk l_worth_of c_worth_of k_worth_of, b_worth_of := (fun_mk (st := s_worth_of) l_worth_of c_worth_of k_worth_of).binds (ps := ["row", "base"]) fun _ _ _ _ _ _ us hl => match us, hl with | [_, _], _ => rfl, m_worth_of := PySem.W.mg_of X G a_worth_of,
    a_number_of := x_number_of, d_number_of := PySem.W.fnOf "number_of" "number_of" (defArgs s_number_of) (defBody s_number_of) (defScope s_number_of) .none kV_number_of dc_number_of pm_number_of an_number_of cd_number_of ct_number_of, F_number_of := fun_mk l_number_of c_number_of k_number_of, b_number_of := (fun_mk (st := s_number_of) l_number_of c_number_of k_number_of).binds (ps := ["row", "base"]) fun _ _ _ _ _ _ us hl => match us, hl with | [_, _], _ => rfl, m_number_of := PySem.W.mg_of X G a_number_of,
    a_is_sum := x_is_sum, d_is_sum := PySem.W.fnOf "is_sum" "is_sum" (defArgs s_is_sum) (defBody s_is_sum) (defScope s_is_sum) .none kV_is_sum dc_is_sum pm_is_sum an_is_sum cd_is_sum ct_is_sum, F_is_sum := fun_mk l_is_sum c_is_sum k_is_sum, b_is_sum := (fun_mk (st := s_is_sum) l_is_sum c_is_sum k_is_sum).binds (ps := ["told", "number"]) fun _ _ _ _ _ _ us hl => match us, hl with | [_, _], _ => rfl, m_is_sum := PySem.W.mg_of X G a_is_sum,
    a_is_chain := x_is_chain, d_is_chain := PySem.W.fnOf "is_chain" "is_chain" (defArgs s_is_chain) (defBody s_is_chain) (defScope s_is_chain) .none kV_is_chain dc_is_chain pm_is_chain an_is_chain cd_is_chain ct_is_chain, F_is_chain := fun_mk l_is_chain c_is_chain k_is_chain, b_is_chain := (fun_mk (st := s_is_chain) l_is_chain c_is_chain k_is_chain).binds (ps := ["told"]) fun _ _ _ _ _ _ us hl => match us, hl with | [_], _ => rfl, m_is_chain := PySem.W.mg_of X G a_is_chain,
    a_doubled := x_doubled, d_doubled := PySem.W.fnOf "doubled" "doubled" (defArgs s_doubled) (defBody s_doubled) (defScope s_doubled) .none kV_doubled dc_doubled pm_doubled an_doubled cd_doubled ct_doubled, F_doubled := fun_mk l_doubled c_doubled k_doubled, b_doubled := (fun_mk (st := s_doubled) l_doubled c_doubled k_doubled).binds (ps := ["number", "place"]) fun _ _ _ _ _ _ us hl => match us, hl with | [_, _], _ => rfl, m_doubled := PySem.W.mg_of X G a_doubled,
    a_by_shifts := x_by_shifts, d_by_shifts := PySem.W.fnOf "by_shifts" "by_shifts" (defArgs s_by_shifts) (defBody s_by_shifts) (defScope s_by_shifts) .none kV_by_shifts dc_by_shifts pm_by_shifts an_by_shifts cd_by_shifts ct_by_shifts, F_by_shifts := fun_mk l_by_shifts c_by_shifts k_by_shifts, b_by_shifts := (fun_mk (st := s_by_shifts) l_by_shifts c_by_shifts k_by_shifts).binds (ps := ["number", "other"]) fun _ _ _ _ _ _ us hl => match us, hl with | [_, _], _ => rfl, m_by_shifts := PySem.W.mg_of X G a_by_shifts,
    a_law := x_law, d_law := PySem.W.fnOf "law" "law" (defArgs s_law) (defBody s_law) (defScope s_law) .none kV_law dc_law pm_law an_law cd_law ct_law, F_law := fun_mk l_law c_law k_law, b_law := (fun_mk (st := s_law) l_law c_law k_law).binds (ps := ["script"]) fun _ _ _ _ _ _ us hl => match us, hl with | [_], _ => rfl, m_law := PySem.W.mg_of X G a_law,
    z_abs := PySem.W.mg_none_of X G z_abs,
    z_all := PySem.W.mg_none_of X G z_all,
    z_any := PySem.W.mg_none_of X G z_any,
    z_enumerate := PySem.W.mg_none_of X G z_enumerate,
    z_int := PySem.W.mg_none_of X G z_int,
    z_len := PySem.W.mg_none_of X G z_len,
    z_min := PySem.W.mg_none_of X G z_min,
    z_range := PySem.W.mg_none_of X G z_range,
    z_sorted := PySem.W.mg_none_of X G z_sorted,
    z_sum := PySem.W.mg_none_of X G z_sum,
    z_zip := PySem.W.mg_none_of X G z_zip,
    c_LEAST_BASE := ⟨_, PySem.W.mg_of X G q_LEAST_BASE⟩,
    c_MOST_BASE := ⟨_, PySem.W.mg_of X G q_MOST_BASE⟩,
    c_MOST_BINARY := ⟨_, PySem.W.mg_of X G q_MOST_BINARY⟩,
    c_MOST_LISTED := ⟨_, PySem.W.mg_of X G q_MOST_LISTED⟩,
    c_MOST_PLACES := ⟨_, PySem.W.mg_of X G q_MOST_PLACES⟩,
    c_SIGNED := ⟨_, PySem.W.mg_of X G q_SIGNED, ⟨_, _, _, l_SIGNED, rfl, rfl, (by show 3 ≤ 2 ^ 24; decide), .cons (show RelV _ _ from ⟨_, by first | rfl | (congr 1)⟩) (.cons (show RelV _ _ from ⟨_, by first | rfl | (congr 1)⟩) (.cons (show RelV _ _ from ⟨_, by first | rfl | (congr 1)⟩) (.nil)))⟩⟩ }, ?_, fun s u => .of_eq rfl⟩
  cases e
  rfl
end LW

set_option Elab.async false
set_option linter.all false
/-! M0: plain lemmas over the mirrors' combinators. -/
namespace PL
variable {Γ Γ' Γb ρ τ α β ι : Type}
theorem seqO_nx {s : Γ} {k : Γ → Option (Out Γ' ρ)} : seqO (some (.nx s)) k = k s := of_eq_true (eq_true rfl)
theorem seqO_rt {r : ρ} {k : Γ → Option (Out Γ' ρ)} : seqO (some (.rt r)) k = some (.rt r) := of_eq_true (eq_true rfl)
theorem seqO_none {k : Γ → Option (Out Γ' ρ)} : seqO none k = none := of_eq_true (eq_true rfl)
theorem outF_rt {d : Option ρ} {r : ρ} : outF d (some (.rt r : Out Γ ρ)) = some r := of_eq_true (eq_true rfl)
theorem outF_nx {d : Option ρ} {s : Γ} : outF d (some (.nx s : Out Γ ρ)) = d := of_eq_true (eq_true rfl)
theorem bsome {a : α} {f : α → Option β} : (some a).bind f = f a := of_eq_true (eq_true rfl)
theorem whileO_zero {c : Γ → Option Bool} {b : Γ → Option (Out Γ ρ)} {g : Γ} : whileO c b 0 g = none := of_eq_true (eq_true rfl)
theorem whileO_succ {c : Γ → Option Bool} {b : Γ → Option (Out Γ ρ)} {n : Nat} {g : Γ} : whileO c b (n + 1) g = (c g).bind fun t => if t = true then seqO (b g) (whileO c b n) else some (.nx g) := of_eq_true (eq_true rfl)
theorem forO_nil {set : Γ → ι → Γb} {b : Γb → Option (Out Γ ρ)} {g : Γ} : forO set b [] g = some (.nx g) := of_eq_true (eq_true rfl)
theorem forO_cons {set : Γ → ι → Γb} {b : Γb → Option (Out Γ ρ)} {x : ι} {xs : List ι} {g : Γ} : forO set b (x :: xs) g = seqO (b (set g x)) (forO set b xs) := of_eq_true (eq_true rfl)
theorem iMod_eq {x y : Int} (h : 0 < y) : iMod x y = some (x % y) := if_pos h
theorem log2_lt64 {x : Int} {n : Nat} (h1 : -(2 ^ n) < x) (h2 : x < 2 ^ n) (hn : 0 < n) : x.natAbs.log2 < n := by
  have hp : ((2 : Int) ^ n) = ((2 ^ n : Nat) : Int) := by simp
  by_cases h : x.natAbs = 0
  · rw [h]; simp; exact hn
  · rw [Nat.log2_lt h]
    omega
theorem iDiv_eq {x y : Int} (h : 0 < y) (h2 : y < 2 ^ 64) : iDiv x y = some (x / y) := if_pos ⟨h, Nat.lt_of_lt_of_le (log2_lt64 (n := 64) (by omega) h2 (by decide)) (by decide)⟩
theorem iMul_eq {x y : Int} (h1 : -(2 ^ 64) < x ∧ x < 2 ^ 64) (h2 : -(2 ^ 64) < y ∧ y < 2 ^ 64) : iMul x y = some (x * y) := by
  have a := log2_lt64 (n := 64) h1.1 h1.2 (by decide)
  have b := log2_lt64 (n := 64) h2.1 h2.2 (by decide)
  exact if_pos (by omega)
theorem iMul_bits {x y : Int} (h : x.natAbs.log2 + y.natAbs.log2 < 1000000) : iMul x y = some (x * y) := if_pos h
theorem sizeLine_val : PySem.sizeLine = 16777216 := by decide
theorem push_eq {l : List τ} {t : τ} (h : l.length < 16777216) : push l t = some (l ++ [t]) := if_pos (by rw [sizeLine_val]; exact h)
theorem lNew_eq {l : List τ} (h : l.length ≤ 16777216) : lNew l = some l := if_pos (by rw [sizeLine_val]; exact h)
theorem lCat_eq {l r : List τ} (h : l.length + r.length ≤ 16777216) : lCat l r = some (l ++ r) := if_pos (by rw [sizeLine_val]; exact h)
theorem tCat_eq {l r : Tx} (h : l.cs.length + r.cs.length ≤ 16777216) : tCat l r = some ⟨l.cs ++ r.cs⟩ := if_pos (by rw [sizeLine_val]; exact h)
theorem rng1_eq {j : Int} (h : j < 2 ^ 62) (h0 : -(2 ^ 62) ≤ j) : rng1 j = some (rng 0 j.toNat) := if_pos ⟨h0, h⟩
theorem rng2_eq {i j : Int} (h : -(2 ^ 62) ≤ i ∧ i < 2 ^ 62) (h' : -(2 ^ 62) ≤ j ∧ j < 2 ^ 62) : rng2 i j = some (rng i (j - i).toNat) := if_pos ⟨h, h'⟩
theorem rng_mem {lo x : Int} {n : Nat} (h : x ∈ rng lo n) : lo ≤ x ∧ x < lo + n := by
  unfold rng at h
  obtain ⟨i, hi, rfl⟩ := List.mem_map.mp h
  have := List.mem_range.mp hi
  omega
theorem rng_zero {lo : Int} : rng lo 0 = [] := rfl
theorem rng_succ {lo : Int} {n : Nat} : rng lo (n + 1) = lo :: rng (lo + 1) n := by
  unfold rng
  rw [List.range_succ_eq_map, List.map_cons, List.map_map]
  congr 1
  · simp
  · exact List.map_congr_left fun i _ => by simp only [Function.comp]; omega
theorem atI_some {l : List τ} {i : Int} (h : 0 ≤ i) (h2 : i < l.length) : ∃ x, L2.atI l i = some x ∧ x ∈ l := by
  have hi : i.toNat < l.length := by omega
  refine ⟨l[i.toNat], ?_, List.getElem_mem hi⟩
  have h3 := L2.atI_nat (xs := l) (j := i.toNat) (v := l[i.toNat]) (by simp)
  rw [Int.toNat_of_nonneg h] at h3
  exact h3
/-- a for that goes through, by an invariant over the items behind -/
theorem forO_all {set : Γ → ι → Γb} {b : Γb → Option (Out Γ ρ)} (I : Nat → Γ → Prop) : ∀ (xs : List ι) (i : Nat) (g : Γ), I i g → (∀ j x g, xs[j]? = some x → I (i + j) g → ∃ g', b (set g x) = some (.nx g') ∧ I (i + j + 1) g') → ∃ g', forO set b xs g = some (.nx g') ∧ I (i + xs.length) g'
  | [], i, g, h, _ => ⟨g, rfl, h⟩
  | x :: xs, i, g, h, st => by
    obtain ⟨g1, e1, h1⟩ := st 0 x g rfl h
    obtain ⟨g2, e2, h2⟩ := forO_all I xs (i + 1) g1 h1 fun j y g hy hI => by
      have := st (j + 1) y g hy (by rw [show i + (j + 1) = i + 1 + j by omega]; exact hI)
      rw [show i + 1 + j + 1 = i + (j + 1) + 1 by omega]
      exact this
    refine ⟨g2, ?_, by rw [List.length_cons, show i + (xs.length + 1) = i + 1 + xs.length by omega]; exact h2⟩
    rw [forO_cons, e1, seqO_nx]
    exact e2
/-- a for whose state is told by the turn -/
theorem forO_eq {set : Γ → ι → Γb} {b : Γb → Option (Out Γ ρ)} (G : Nat → Γ) (xs : List ι) (st : ∀ j x, xs[j]? = some x → b (set (G j) x) = some (.nx (G (j + 1)))) : forO set b xs (G 0) = some (.nx (G xs.length)) := by
  obtain ⟨g, e, h⟩ := forO_all (fun i g => g = G i) xs 0 (G 0) rfl fun j x g hx hg => by
    have hg : g = G (0 + j) := hg
    rw [Nat.zero_add] at hg
    subst hg
    exact ⟨_, st j x hx, by rw [Nat.zero_add]⟩
  have h : g = G (0 + xs.length) := h
  rw [Nat.zero_add] at h
  rw [e, h]
theorem forO_same {set : Γ → ι → Γb} {b : Γb → Option (Out Γ ρ)} {g : Γ} {xs : List ι} (st : ∀ x ∈ xs, b (set g x) = some (.nx g)) : forO set b xs g = some (.nx g) :=
  forO_eq (fun _ => g) xs fun j x hx => st x (List.mem_of_getElem? hx)
/-- a while, by an invariant and a measure -/
theorem whileO_all {c : Γ → Option Bool} {b : Γ → Option (Out Γ ρ)} (I : Γ → Prop) (m : Γ → Nat) (st : ∀ g, I g → c g = some false ∨ (c g = some true ∧ ∃ g', b g = some (.nx g') ∧ I g' ∧ m g' < m g)) : ∀ (n : Nat) (g : Γ), I g → m g < n → ∃ g', whileO c b n g = some (.nx g') ∧ I g' ∧ c g' = some false
  | 0, g, _, h => absurd h (Nat.not_lt_zero _)
  | n + 1, g, hI, hm => by
    rw [whileO_succ]
    rcases st g hI with h | ⟨h, g', e, hI', hm'⟩
    · exact ⟨g, by rw [h]; rfl, hI, h⟩
    · obtain ⟨g2, e2, r⟩ := whileO_all I m st n g' hI' (by omega)
      exact ⟨g2, by rw [h, bsome, if_pos rfl, e, seqO_nx]; exact e2, r⟩
/-- a while whose state is told by the turn -/
theorem whileO_eq {c : Γ → Option Bool} {b : Γ → Option (Out Γ ρ)} (G : Nat → Γ) (N : Nat) (st : ∀ j, j < N → c (G j) = some true ∧ b (G j) = some (.nx (G (j + 1)))) (en : c (G N) = some false) : ∀ (n : Nat), N < n → whileO c b n (G 0) = some (.nx (G N)) := by
  have go : ∀ (k j n : Nat), j + k = N → k < n → whileO c b n (G j) = some (.nx (G N)) := by
    intro k
    induction k with
    | zero =>
      intro j n hj hn
      obtain ⟨n, rfl⟩ : ∃ m, n = m + 1 := ⟨n - 1, by omega⟩
      have : j = N := by omega
      subst this
      rw [whileO_succ, en]
      rfl
    | succ k ih =>
      intro j n hj hn
      obtain ⟨n, rfl⟩ : ∃ m, n = m + 1 := ⟨n - 1, by omega⟩
      obtain ⟨h1, h2⟩ := st j (by omega)
      rw [whileO_succ, h1, bsome, if_pos rfl, h2, seqO_nx]
      exact ih (j + 1) n (by omega) (by omega)
  exact fun n hn => go N 0 n (Nat.zero_add _) hn
end PL

set_option Elab.async false
set_option linter.all false
set_option maxRecDepth 100000
namespace PL
open PySem
theorem dNin_int (x : Int) (ys : List Int) : dNin x ys = some (!decide (x ∈ ys)) := by
  unfold dNin
  rw [if_pos]
  refine ⟨rfl, ?_⟩
  show ys.all (fun _ => true) = true
  simp
theorem at_last {l : List Int} {x : Int} : L2.atI (l ++ [x]) (-1) = some x := L2.atI_last l x
theorem compO_eq {Γb ι τ : Type} {t : Γb → Option Bool} {f : Γb → Option τ} {set : ι → Γb} {p : ι → Bool} {h : ι → τ} : ∀ {xs : List ι}, (∀ x ∈ xs, t (set x) = some (p x)) → (∀ x ∈ xs, p x = true → f (set x) = some (h x)) → compO t f set xs = some ((xs.filter p).map h)
  | [], _, _ => rfl
  | x :: xs, h1, h2 => by
    have ih := compO_eq (xs := xs) (fun y hy => h1 y (List.mem_cons_of_mem _ hy)) (fun y hy => h2 y (List.mem_cons_of_mem _ hy))
    rw [compO, h1 x List.mem_cons_self, bsome]
    by_cases hp : p x = true
    · rw [if_pos hp, h2 x List.mem_cons_self hp, bsome, ih, bsome, List.filter_cons_of_pos hp, List.map_cons]
    · rw [if_neg hp, ih, List.filter_cons_of_neg hp]
theorem cast_mod (a b : Nat) : ((a : Nat) : Int) % ((b : Nat) : Int) = ((a % b : Nat) : Int) := by push_cast; rfl
theorem cast_div (a b : Nat) : ((a : Nat) : Int) / ((b : Nat) : Int) = ((a / b : Nat) : Int) := by push_cast; rfl
theorem bret {α : Type} {x : Option α} : (x.bind fun y => some y) = x := by cases x <;> rfl
theorem jL_one : ∀ l : List Nat, jL [] (l.map fun c => [c]) = l
  | [] => rfl
  | [c] => rfl
  | c :: d :: l => by
    have h := jL_one (d :: l)
    show [c] ++ ([] ++ jL [] ((d :: l).map fun c => [c])) = _
    rw [h]
    rfl
theorem compO_all {Γb ι τ : Type} {t : Γb → Option Bool} {f : Γb → Option τ} {set : ι → Γb} {h : ι → τ} : ∀ {xs : List ι}, (∀ x ∈ xs, t (set x) = some true) → (∀ x ∈ xs, f (set x) = some (h x)) → compO t f set xs = some (xs.map h)
  | [], _, _ => rfl
  | x :: xs, h1, h2 => by
    have ih := compO_all (xs := xs) (fun y hy => h1 y (List.mem_cons_of_mem _ hy)) (fun y hy => h2 y (List.mem_cons_of_mem _ hy))
    rw [compO, h1 x List.mem_cons_self, bsome, if_pos rfl, h2 x List.mem_cons_self, bsome, ih, bsome, List.map_cons]
theorem rShow_tx {t : Tx} (h : t.cs.length ≤ 1000) (h2 : ∀ c ∈ t.cs, c < 1000) : ∃ r, rShow t = some r := by
  refine ⟨_, if_pos ⟨rfl, rfl, ?_, by show 0 ≤ 32; omega⟩⟩
  have := StrLaws.reprText_len ⟨t.cs.toArray⟩ (fun c hc => Nat.lt_trans (h2 c (by simpa using hc)) (by decide))
  have e : (⟨t.cs.toArray⟩ : Str).length = t.cs.length := by show t.cs.toArray.size = _; simp
  rw [e] at this
  show (reprText ⟨t.cs.toArray⟩).length ≤ sizeLine
  rw [sizeLine_val]
  omega
theorem rShow_int {i : Int} (h : i.natAbs.log2 < 1920) : ∃ r, rShow i = some r := by
  refine ⟨_, if_pos ⟨?_, rfl, ?_, by show 0 ≤ 32; omega⟩⟩
  · show decide (i.natAbs.log2 < 1920) = true
    exact decide_eq_true h
  · have := PyProof.Rows.int_text_len_1921 h
    show (PySem.Str.ofString (toString i)).length ≤ sizeLine
    rw [sizeLine_val]
    omega
theorem rShow_pair {i j : Int} (h : i.natAbs.log2 < 1920) (h2 : j.natAbs.log2 < 1920) : ∃ r, rShow (T2.mk i j) = some r := by
  refine ⟨_, if_pos ⟨?_, rfl, ?_, by show 1 ≤ 32; omega⟩⟩
  · show (decide (i.natAbs.log2 < 1920) && (decide (j.natAbs.log2 < 1920) && true)) = true
    rw [decide_eq_true h, decide_eq_true h2]
    rfl
  · have q1 := PyProof.Rows.int_text_len_1921 h
    have q2 := PyProof.Rows.int_text_len_1921 h2
    show (("(" : Str) ++ ((PySem.Str.ofString (toString i)) ++ ", " ++ (PySem.Str.ofString (toString j))) ++ (")" : String)).length ≤ sizeLine
    rw [strLen_append, strLen_append, strLen_append, strLen_append, sizeLine_val]
    have e1 : (("(" : String) : Str).length = 1 := rfl
    have e2 : ((", " : String) : Str).length = 2 := rfl
    have e3 : ((")" : String) : Str).length = 1 := rfl
    rw [e1, e2, e3]
    omega
theorem rShow_none : ∃ r, rShow (none : Option Int) = some r := by
  refine ⟨_, if_pos ⟨rfl, rfl, ?_, by show 0 ≤ 32; omega⟩⟩
  show (("None" : String) : Str).length ≤ sizeLine
  rw [sizeLine_val]
  decide
theorem iMul_nat {A B : Nat} (hA : A < 2 ^ 64) (hB : B < 2 ^ 64) : iMul (A : Int) (B : Int) = some ((A * B : Nat) : Int) := by
  rw [iMul_eq (by omega) (by omega)]
  push_cast
  rfl
theorem atI_head (L : List Int) : L2.atI ((L.map fun t => some (id t)) ++ [(none : Option Int)]) 0 = some L.head? := by
  cases L with
  | nil => rfl
  | cons a L => exact L2.atI_nat (j := 0) rfl
theorem rShow_opt {x : Option Int} (h : ∀ i, x = some i → i.natAbs.log2 < 1920) : ∃ r, rShow x = some r := by
  cases x with
  | none => exact rShow_none
  | some i => exact rShow_int (h i rfl)
theorem pigeon : ∀ (d : Nat) (l : List Nat), (∀ x ∈ l, x < d) → l.Nodup → l.length ≤ d
  | 0, l, h, _ => by
    cases l with
    | nil => exact Nat.le_refl 0
    | cons a l => have := h a List.mem_cons_self; omega
  | d + 1, l, h, n => by
    by_cases hm : d ∈ l
    · have n2 : (l.erase d).Nodup := n.erase d
      have q := pigeon d (l.erase d) (fun x hx => by
        have h1 := (List.Nodup.mem_erase_iff n).mp hx
        have := h x h1.2
        have := h1.1
        omega) n2
      rw [List.length_erase_of_mem hm] at q
      omega
    · have q := pigeon d l (fun x hx => by
        have := h x hx
        have : x ≠ d := fun z => hm (z ▸ hx)
        omega) n
      omega
theorem dvd_pw {n P : Nat} (h : 0 < P) : n ∣ n ^ P := by
  obtain ⟨k, rfl⟩ : ∃ k, P = k + 1 := ⟨P - 1, by omega⟩
  rw [Nat.pow_succ]
  exact Nat.dvd_mul_left n (n ^ k)
theorem cancel_le {n d x y : Nat} (hc : Nat.Coprime d n) (hxy : y ≤ x) (h : n * x % d = n * y % d) : x % d = y % d := by
  have h1 : d ∣ n * x - n * y := Nat.dvd_of_mod_eq_zero (Nat.sub_mod_eq_zero_of_mod_eq h)
  rw [← Nat.mul_sub] at h1
  have h2 : d ∣ x - y := Nat.Coprime.dvd_of_dvd_mul_left hc h1
  obtain ⟨c, e⟩ := h2
  rw [show x = y + d * c by omega, Nat.add_mul_mod_self_left]
theorem cancel {n d x y : Nat} (hc : Nat.Coprime d n) (h : n * x % d = n * y % d) : x % d = y % d := by
  rcases Nat.le_total y x with q | q
  · exact cancel_le hc q h
  · exact (cancel_le hc q h.symm).symm
theorem gcd_cast (a b : Nat) : (Nat.gcd ((a : Int)).natAbs ((b : Int)).natAbs : Nat) = Nat.gcd a b := by simp
theorem cut_to {τ : Type} {xs : List τ} {k : Nat} : cut xs none (some (k : Int)) = xs.take k := by
  unfold cut
  rw [HT.sIx_none, HT.sIx_nat, List.drop_zero, Nat.sub_zero, List.take_eq_take_iff]
  omega
theorem cut_from {τ : Type} {xs : List τ} {k : Nat} : cut xs (some (k : Int)) none = xs.drop k := by
  unfold cut
  rw [HT.sIx_none, HT.sIx_nat]
  by_cases h : k ≤ xs.length
  · rw [Nat.min_eq_left h, List.take_of_length_le (by rw [List.length_drop]; omega)]
  · rw [Nat.min_eq_right (by omega), List.drop_of_length_le (Nat.le_refl _), List.drop_of_length_le (by omega), List.take_nil]
theorem cutT_eq {t : Tx} {lo hi : Option Int} (h : t.cs.length ≤ 16777216) : cutT t lo hi = some ⟨cut t.cs lo hi⟩ := if_pos (by rw [sizeLine_val]; exact h)
theorem iMod_nat {a b : Nat} (h : 0 < b) : iMod (a : Int) (b : Int) = some ((a % b : Nat) : Int) := by rw [iMod_eq (by omega), cast_mod]
theorem iDiv_bits {x y : Int} (h : 0 < y) (h2 : y.natAbs.log2 < 9000) : iDiv x y = some (x / y) := if_pos ⟨h, h2⟩
theorem iDiv_nat {a b : Nat} (h : 0 < b) (h2 : b < 2 ^ 64) : iDiv (a : Int) (b : Int) = some ((a / b : Nat) : Int) := by rw [iDiv_eq (by omega) (by omega), cast_div]
theorem log2_lt_pow {a k : Nat} (h : a < 2 ^ k) : a.log2 < k + 1 := by
  by_cases h0 : a = 0
  · rw [h0]; simp
  · rw [Nat.log2_lt h0, Nat.pow_succ]; omega
theorem iMul_big {a b k m : Nat} (ha : a < 2 ^ k) (hb : b < 2 ^ m) (h : k + m < 999998) : iMul (a : Int) (b : Int) = some ((a * b : Nat) : Int) := by
  have h1 := log2_lt_pow ha
  have h2 := log2_lt_pow hb
  rw [iMul_bits (by simp only [Int.natAbs_natCast]; omega)]
  push_cast
  rfl
theorem iDiv_big {a b k : Nat} (h0 : 0 < b) (hb : b < 2 ^ k) (h : k < 8990) : iDiv (a : Int) (b : Int) = some ((a / b : Nat) : Int) := by
  have h1 := log2_lt_pow hb
  rw [iDiv_bits (by omega) (by simp only [Int.natAbs_natCast]; omega), cast_div]
end PL

set_option Elab.async false
set_option linter.all false
set_option maxRecDepth 100000
set_option exponentiation.threshold 10000
namespace LW
open PL
def BdD (l : List Int) : Prop := ∀ x ∈ l, 0 ≤ x ∧ x < 65536
theorem BdD.app {l : List Int} {x : Int} (h : BdD l) (h0 : 0 ≤ x) (h1 : x < 65536) : BdD (l ++ [x]) := fun y hy => by
  rcases List.mem_append.mp hy with hy | hy
  · exact h y hy
  · have e : y = x := by simpa using hy
    rw [e]; exact ⟨h0, h1⟩
theorem draws_lp0 {ns ds : List Int} {k r t : Int} (hl : ds.length < 4000) (hb : BdD ds) (hr : 0 ≤ r) :
    ∃ ds' r', lp__law_draws_0 ⟨ns, ds, k, r, t, 0⟩ = some (.nx ⟨ns, ds', k, r', 0, 0⟩) ∧ ds'.length ≤ ds.length + 1 ∧ BdD ds' ∧ 0 ≤ r' := by
  unfold lp__law_draws_0
  simp only [bsome]
  by_cases h : r > 0
  · rw [decide_eq_true h]
    simp only [if_pos, bsome, seqO_nx]
    rw [iMod_eq (by decide)]
    simp only [bsome]
    rw [push_eq (by omega)]
    simp only [bsome, seqO_nx]
    rw [iDiv_eq (by decide) (by decide)]
    simp only [bsome, seqO_nx]
    exact ⟨_, _, rfl, by simp, hb.app (by omega) (by omega), by omega⟩
  · rw [decide_eq_false h]
    simp only [Bool.false_eq_true, if_false, seqO_nx]
    exact ⟨_, _, rfl, by omega, hb, hr⟩
theorem draws_lp1 {ns ds : List Int} {k : Int} (hk : 0 ≤ k) (hk2 : k < ns.length) (hk3 : k < 63) (hl : ds.length ≤ 60 * k.toNat) (hb : BdD ds) :
    ∃ ds', lp__law_draws_1 ⟨ns, ds, k, 0, 0, 0⟩ = some (.nx ⟨ns, ds', 0, 0, 0, 0⟩) ∧ ds'.length ≤ 60 * (k.toNat + 1) ∧ BdD ds' := by
  unfold lp__law_draws_1
  obtain ⟨x, hx, _⟩ := atI_some hk hk2
  simp only [bsome, hx, seqO_nx]
  rw [show iPow 10 18 = some 1000000000000000000 by decide +kernel]
  simp only [bsome]
  by_cases h : (x.natAbs : Int) ≥ 1000000000000000000
  · rw [decide_eq_true h]
    simp only [if_pos, seqO_nx]
    rw [rng1_eq (by decide) (by decide)]
    simp only [bsome]
    obtain ⟨g, e, ds', r', rfl, h1, h2, h3⟩ := forO_all (set := fun (s : S__law_draws) (t : Int) => (⟨s.1, s.2, s.3, s.4, t, s.6⟩ : S__law_draws)) (b := lp__law_draws_0) (fun i g => ∃ ds' r', g = ⟨ns, ds', k, r', 0, 0⟩ ∧ ds'.length ≤ ds.length + i ∧ BdD ds' ∧ 0 ≤ r') (rng 0 (Int.toNat 60)) 0 ⟨ns, ds, k, x.natAbs, 0, 0⟩ ⟨ds, _, rfl, by omega, hb, by omega⟩ (by
      rintro j y g hj ⟨ds', r', rfl, h1, h2, h3⟩
      have hj2 := (List.getElem?_eq_some_iff.mp hj).1
      rw [rng_len] at hj2
      have hj3 : j < 60 := hj2
      obtain ⟨d2, r2, e2, h4, h5, h6⟩ := draws_lp0 (ns := ns) (ds := ds') (k := k) (r := r') (t := y) (by omega) h2 h3
      exact ⟨_, e2, d2, r2, rfl, by omega, h5, h6⟩)
    rw [e]
    simp only [seqO_nx]
    refine ⟨_, rfl, ?_, h2⟩
    rw [rng_len] at h1
    have : Int.toNat 60 = 60 := rfl
    omega
  · rw [decide_eq_false h]
    simp only [Bool.false_eq_true, if_false]
    rw [iMul_eq (by omega) (by decide), iMul_eq (by omega) (by decide)]
    simp only [bsome]
    rw [iMod_eq (by decide)]
    simp only [bsome, seqO_nx]
    rw [iMul_eq (by omega) (by decide), iMul_eq (by decide) (by omega)]
    simp only [bsome]
    rw [iMod_eq (by decide)]
    simp only [bsome, seqO_nx]
    rw [iMod_eq (by decide)]
    simp only [bsome]
    rw [push_eq (by omega)]
    simp only [bsome, seqO_nx]
    rw [iDiv_eq (by decide) (by decide)]
    simp only [bsome]
    rw [iMod_eq (by decide)]
    simp only [bsome]
    rw [push_eq (by simp; omega)]
    simp only [bsome, seqO_nx]
    exact ⟨_, rfl, by simp; omega, (hb.app (by omega) (by omega)).app (by omega) (by omega)⟩
theorem draws_ok (ns : List Int) (h : ns.length ≤ 63) : ∃ l, F__law_draws ns = some l ∧ l.length ≤ 3780 ∧ BdD l := by
  unfold F__law_draws fb__law_draws
  simp only [bsome, seqO_nx]
  rw [rng1_eq (by omega) (by omega)]
  simp only [bsome]
  obtain ⟨g, e, ds', rfl, h1, h2⟩ := forO_all (set := fun (s : S__law_draws) (t : Int) => (⟨s.1, s.2, t, s.4, s.5, s.6⟩ : S__law_draws)) (b := lp__law_draws_1) (fun i g => ∃ ds', g = ⟨ns, ds', 0, 0, 0, 0⟩ ∧ ds'.length ≤ 60 * i ∧ BdD ds') (rng 0 (min 63 (ns.length : Int)).toNat) 0 ⟨ns, [], 0, 0, 0, 0⟩ ⟨[], rfl, by simp, fun x hx => absurd hx (by simp)⟩ (by
    rintro j y g hj ⟨ds', rfl, h1, h2⟩
    obtain ⟨h3, rfl⟩ := rng_get hj
    obtain ⟨d2, e2, h4, h5⟩ := draws_lp1 (ns := ns) (ds := ds') (k := 0 + (j : Int)) (by omega) (by omega) (by omega) (by simp at h1 ⊢; omega) h2
    exact ⟨_, e2, d2, rfl, by simp at h4 ⊢; omega, h5⟩)
  rw [e]
  simp only [seqO_nx, seqO_rt, outF_rt]
  exact ⟨_, rfl, by rw [rng_len] at h1; omega, h2⟩
theorem mix_ok {l : List Int} (hb : BdD l) (hl : l.length ≤ 3780) {k m : Int} (hk : 0 ≤ k) (hk2 : k < 100000000) (hm : 0 < m) : ∃ r, F__law_mix l k m = some r ∧ 0 ≤ r ∧ r < m := by
  unfold F__law_mix fb__law_mix
  simp only [bsome, seqO_nx]
  by_cases h : (l.length : Int) > 0
  · rw [decide_eq_true h]
    simp only [if_pos]
    rw [iMod_eq h]
    simp only [bsome]
    obtain ⟨x, hx, hmem⟩ := atI_some (l := l) (i := k % l.length) (Int.emod_nonneg _ (by omega)) (Int.emod_lt_of_pos _ h)
    rw [hx]
    simp only [bsome, seqO_nx]
    have hx1 := (hb x hmem).1
    have hx2 := (hb x hmem).2
    by_cases h2 : k < (l.length : Int)
    · rw [decide_eq_true h2]
      simp only [if_pos]
      rw [iMod_eq hm]
      simp only [bsome, seqO_rt, outF_rt]
      exact ⟨_, rfl, Int.emod_nonneg _ (by omega), Int.emod_lt_of_pos _ hm⟩
    · rw [decide_eq_false h2]
      simp only [Bool.false_eq_true, if_false, seqO_nx]
      rw [iMul_eq (by omega) (by decide), iMul_eq (by omega) (by decide)]
      simp only [bsome]
      rw [iDiv_eq (by decide) (by decide)]
      simp only [bsome]
      rw [iMod_eq hm]
      simp only [bsome, seqO_rt, outF_rt]
      exact ⟨_, rfl, Int.emod_nonneg _ (by omega), Int.emod_lt_of_pos _ hm⟩
  · rw [decide_eq_false h]
    simp only [Bool.false_eq_true, if_false, seqO_nx, bsome]
    by_cases h2 : k < (l.length : Int)
    · rw [decide_eq_true h2]
      simp only [if_pos]
      rw [iMod_eq hm]
      simp only [bsome, seqO_rt, outF_rt]
      exact ⟨_, rfl, Int.emod_nonneg _ (by omega), Int.emod_lt_of_pos _ hm⟩
    · rw [decide_eq_false h2]
      simp only [Bool.false_eq_true, if_false, seqO_nx]
      rw [iMul_eq (by omega) (by decide), iMul_eq (by omega) (by decide)]
      simp only [bsome]
      rw [iDiv_eq (by decide) (by decide)]
      simp only [bsome]
      rw [iMod_eq hm]
      simp only [bsome, seqO_rt, outF_rt]
      exact ⟨_, rfl, Int.emod_nonneg _ (by omega), Int.emod_lt_of_pos _ hm⟩
end LW

set_option Elab.async false
set_option linter.all false
set_option maxRecDepth 100000
set_option exponentiation.threshold 10000
namespace LW
open PL
theorem bassoc {α β γ : Type} {x : Option α} {f : α → Option β} {g : β → Option γ} : (x.bind f).bind g = x.bind fun a => (f a).bind g := by cases x <;> rfl
theorem iMul_sm {x y : Int} (h1 : -(2 ^ 200) < x ∧ x < 2 ^ 200) (h2 : -(2 ^ 200) < y ∧ y < 2 ^ 200) : iMul x y = some (x * y) :=
  iMul_bits (by
    have := log2_lt64 h1.1 h1.2 (by decide)
    have := log2_lt64 h2.1 h2.2 (by decide)
    omega)
theorem two_pow_lt {k m : Nat} (h : k ≤ m) : (2 : Int) ^ k ≤ 2 ^ m := by
  have : (2 : Nat) ^ k ≤ 2 ^ m := Nat.pow_le_pow_right (by decide) h
  exact_mod_cast this
theorem two_pow_pos {k : Nat} : (0 : Int) < 2 ^ k := Int.pow_pos (by decide)
theorem doubled_ok {k : Nat} {x : Int} (hk : k ≤ 60) (h1 : -(2 ^ 60) < x) (h2 : x < 2 ^ 60) : F_doubled x (k : Int) = some (x * 2 ^ k) := by
  unfold F_doubled fb_doubled
  simp only [bsome, seqO_nx]
  rw [rng1_eq (by omega) (by omega)]
  simp only [bsome]
  have hl := forO_eq (set := fun (s : S_doubled) (t : Int) => { s with v__ := t }) (b := lp_doubled_0) (fun j => (⟨x * 2 ^ j, (k : Int), 0⟩ : S_doubled)) (rng 0 (k : Int).toNat) (fun j y hx => by
    have hj : j < k := by
      have := (List.getElem?_eq_some_iff.mp hx).1
      unfold rng at this
      rw [List.length_map, List.length_range, Int.toNat_natCast] at this
      exact this
    unfold lp_doubled_0
    simp only [bsome]
    have h3 := two_pow_lt (k := j) (m := 60) (by omega)
    have h4 := two_pow_pos (k := j)
    have h5 : x * 2 ^ j ≤ 2 ^ 60 * 2 ^ 60 := Int.le_trans (Int.mul_le_mul_of_nonneg_right (Int.le_of_lt h2) (Int.le_of_lt h4)) (Int.mul_le_mul_of_nonneg_left h3 (by decide))
    have h6 : -(2 ^ 60) * 2 ^ 60 ≤ x * 2 ^ j := Int.le_trans (Int.mul_le_mul_of_nonpos_left (by decide) h3) (Int.mul_le_mul_of_nonneg_right (Int.le_of_lt h1) (Int.le_of_lt h4))
    rw [iMul_sm (by decide) ⟨by omega, by omega⟩]
    simp only [bsome, seqO_nx]
    rw [Int.mul_comm 2, Int.mul_assoc, ← Int.pow_succ])
  have hlen : (rng 0 (k : Int).toNat).length = k := by
    unfold rng
    rw [List.length_map, List.length_range, Int.toNat_natCast]
  rw [hlen, Int.pow_zero, Int.mul_one] at hl
  rw [hl]
  simp only [seqO_nx, seqO_rt, outF_rt]

def dg (r : Nat) : Int := if r % 2 = 1 then 2 - (r % 4 : Nat) else 0
def nx (r : Nat) : Nat := (r + if r % 4 = 3 then 1 else 0) / 2
def naf : Nat → Nat → List Int
  | 0, _ => []
  | f + 1, r => if r = 0 then [] else dg r :: naf f (nx r)
theorem dg_nx (r : Nat) : dg r + 2 * (nx r : Int) = r := by
  unfold dg nx
  split <;> split <;> omega
theorem dg_cases (r : Nat) : dg r = 0 ∨ dg r = 1 ∨ dg r = -1 := by
  unfold dg
  split
  · have : r % 4 = 1 ∨ r % 4 = 3 := by omega
    rcases this with h | h
    · rw [h]; exact .inr (.inl rfl)
    · rw [h]; exact .inr (.inr rfl)
  · exact .inl rfl
theorem dg_even {r : Nat} (h : r % 2 = 0) : dg r = 0 := by
  unfold dg
  rw [if_neg (by omega)]
theorem dg_odd {r : Nat} (h : dg r ≠ 0) : nx r % 2 = 0 := by
  unfold dg at h
  unfold nx
  split at h
  · split <;> omega
  · exact absurd rfl h
theorem nx_le {r k : Nat} (h : r ≤ 2 ^ (k + 1)) : nx r ≤ 2 ^ k := by
  rw [Nat.pow_succ] at h
  unfold nx
  split <;> omega
theorem nx_one {r : Nat} (h : r ≤ 1) : nx r = 0 := by
  unfold nx
  rcases (show r = 0 ∨ r = 1 by omega) with rfl | rfl
  · rfl
  · rfl
theorem naf_zero (f : Nat) : naf f 0 = [] := by
  cases f with
  | zero => rfl
  | succ f => unfold naf; rw [if_pos rfl]
theorem naf_len : ∀ (f r : Nat), (naf f r).length ≤ f
  | 0, _ => Nat.le_refl _
  | f + 1, r => by
    unfold naf
    split
    · exact Nat.zero_le _
    · rw [List.length_cons]
      exact Nat.succ_le_succ (naf_len f _)
theorem lean_loop {n : Int} : ∀ (f m r : Nat) (found : List Int), r ≤ 2 ^ f → f + 1 < m → (found ≠ [] ∨ r ≠ 0) → found.length + f < 1000 →
    whileO lc_lean_row_1 lp_lean_row_0 m ⟨n, found, (r : Int), 0⟩ = some (.nx ⟨n, found ++ naf (f + 1) r, 0, 0⟩) := by
  have stop : ∀ (m : Nat) (found : List Int), found ≠ [] → whileO lc_lean_row_1 lp_lean_row_0 (m + 1) ⟨n, found, ((0 : Nat) : Int), 0⟩ = some (.nx ⟨n, found, 0, 0⟩) := fun m found h => by
    have hl : 0 < found.length := List.length_pos_iff.mpr h
    rw [whileO_succ, show lc_lean_row_1 ⟨n, found, ((0 : Nat) : Int), 0⟩ = some false by
      unfold lc_lean_row_1
      simp only [bsome]
      rw [show (!decide ((((0 : Nat)) : Int) = 0)) = false by decide, if_neg (by decide), decide_eq_false (by omega)], bsome, if_neg (by decide)]
    rfl
  have step : ∀ (m r : Nat) (found : List Int), r ≠ 0 → found.length < 1000 → whileO lc_lean_row_1 lp_lean_row_0 (m + 1) ⟨n, found, (r : Int), 0⟩ = whileO lc_lean_row_1 lp_lean_row_0 m ⟨n, found ++ [dg r], (nx r : Int), 0⟩ := fun m r found h hl => by
    have c1 : lc_lean_row_1 ⟨n, found, (r : Int), 0⟩ = some true := by
      unfold lc_lean_row_1
      simp only [bsome]
      rw [decide_eq_false (by omega)]
      rfl
    have c2 : lp_lean_row_0 ⟨n, found, (r : Int), 0⟩ = some (.nx ⟨n, found ++ [dg r], (nx r : Int), 0⟩) := by
      have hd := dg_nx r
      unfold lp_lean_row_0
      simp only [bsome, seqO_nx]
      rw [iMod_eq (by decide), iMod_eq (by decide)]
      simp only [bsome, seqO_nx]
      by_cases q : r % 2 = 1
      · rw [decide_eq_true (show (r : Int) % 2 = 1 by omega), if_pos rfl]
        simp only [seqO_nx]
        rw [show (2 : Int) - (r : Int) % 4 = dg r by unfold dg; rw [if_pos q]; push_cast; rfl, push_eq (by omega)]
        simp only [bsome, seqO_nx]
        rw [iDiv_eq (by decide) (by decide), show ((r : Int) - dg r) / 2 = (nx r : Int) by omega]
        simp only [bsome, seqO_nx]
      · have e0 : dg r = 0 := dg_even (by omega)
        rw [decide_eq_false (show ¬ (r : Int) % 2 = 1 by omega), if_neg (by decide)]
        simp only [seqO_nx]
        rw [push_eq (by omega), e0]
        simp only [bsome, seqO_nx]
        rw [iDiv_eq (by decide) (by decide), show ((r : Int) - 0) / 2 = (nx r : Int) by omega]
        simp only [bsome, seqO_nx]
    rw [whileO_succ, c1, bsome, if_pos rfl, c2, seqO_nx]
  intro f
  induction f with
  | zero =>
    intro m r found h hm hne hl
    obtain ⟨m, rfl⟩ : ∃ k, m = k + 2 := ⟨m - 2, by omega⟩
    by_cases c : r = 0
    · subst c
      rw [stop _ _ (hne.resolve_right fun z => z rfl), naf_zero, List.append_nil]
    · rw [step _ _ _ c (by omega), nx_one (by simpa using h), stop _ _ (by simp), naf, if_neg c]
      rfl
  | succ f ih =>
    intro m r found h hm hne hl
    obtain ⟨m, rfl⟩ : ∃ k, m = k + 1 := ⟨m - 1, by omega⟩
    by_cases c : r = 0
    · subst c
      rw [stop _ _ (hne.resolve_right fun z => z rfl), naf_zero, List.append_nil]
    · rw [step _ _ _ c (by omega), ih m (nx r) _ (nx_le h) (by omega) (.inl (by simp)) (by rw [List.length_append, List.length_singleton]; omega), naf.eq_def (f + 1 + 1)]
      simp [c]
theorem lean_ok {n : Nat} (h0 : 0 < n) (h : n ≤ 2 ^ 40) : F_lean_row (n : Int) = some (naf 41 n).reverse := by
  unfold F_lean_row fb_lean_row
  simp only [bsome, seqO_nx]
  rw [lean_loop 40 FUEL n [] h (by unfold FUEL; omega) (.inr (by omega)) (by simp)]
  simp only [seqO_nx, seqO_rt, outF_rt, bsome, List.nil_append]
def pr : Nat → List Int → List (T2 Int Int)
  | _, [] => []
  | k, d :: ds => if d = 0 then pr (k + 1) ds else ⟨(k : Int), d⟩ :: pr (k + 1) ds
def sh (n : Nat) : List (T2 Int Int) := pr 0 (naf 41 n)
theorem pr_succ : ∀ (ds : List Int) (k : Nat), pr (k + 1) ds = (pr k ds).map fun t => ⟨t.a + 1, t.b⟩
  | [], _ => rfl
  | d :: ds, k => by
    unfold pr
    rw [pr_succ ds (k + 1)]
    split
    · rfl
    · rw [List.map_cons]
      congr 1
theorem pr_filter : ∀ (ds : List Int) (k : Nat), ((((ds.zipIdx k).map fun q => T2.mk (q.2 : Int) q.1).filter fun t => !decide (t.b = 0)).map fun t : T2 Int Int => (⟨t.a, t.b⟩ : T2 Int Int)) = pr k ds
  | [], _ => rfl
  | d :: ds, k => by
    rw [List.zipIdx_cons, List.map_cons, pr]
    by_cases c : d = 0
    · rw [List.filter_cons_of_neg (by simp [c]), if_pos c]
      exact pr_filter ds (k + 1)
    · rw [List.filter_cons_of_pos (by simp [c]), if_neg c, List.map_cons]
      congr 1
      exact pr_filter ds (k + 1)
theorem shifts_of_ok {n : Nat} (h0 : 0 < n) (h : n ≤ 2 ^ 40) : F_shifts_of (n : Int) = some (sh n) := by
  have hl := naf_len 41 n
  unfold F_shifts_of fb_shifts_of
  simp only [bsome]
  rw [lean_ok h0 h]
  simp only [bsome, List.reverse_reverse]
  rw [lNew_eq (by rw [List.length_map, List.length_zipIdx]; omega)]
  simp only [bsome]
  rw [compO_eq (t := fun s : (S_shifts_of × Int) × Int => some (!decide (s.2 = 0))) (f := fun s : (S_shifts_of × Int) × Int => some (T2.mk s.1.2 s.2)) (set := fun t : T2 Int Int => (((⟨(n : Int)⟩ : S_shifts_of), t.a), t.b)) (p := fun t : T2 Int Int => !decide (t.b = 0)) (h := fun t : T2 Int Int => (⟨t.a, t.b⟩ : T2 Int Int)) (fun x _ => rfl) (fun x _ _ => rfl)]
  simp only [bsome, seqO_rt, outF_rt]
  rw [pr_filter]
  rfl
theorem check_ok {n m : Int} (h1 : 1 ≤ n) (h2 : n ≤ m) : F_check_number n m = some () := by
  unfold F_check_number fb_check_number
  simp only [bsome]
  rw [decide_eq_true h1, if_pos rfl, decide_eq_true h2]
  simp only [bsome, Bool.not_true, Bool.false_eq_true, if_false, seqO_nx, outF_nx]
theorem shifts_ok {n : Nat} (h0 : 0 < n) (h : n ≤ 1000000) : F_shifts (n : Int) = some (sh n) := by
  unfold F_shifts fb_shifts
  simp only [bsome]
  rw [check_ok (by omega) (by omega)]
  simp only [bsome, seqO_nx]
  rw [shifts_of_ok h0 (by omega)]
  simp only [bsome, seqO_rt, outF_rt]
def Ok (t : T2 Int Int) : Prop := (∃ k : Nat, t.a = (k : Int) ∧ k ≤ 45) ∧ (t.b = 1 ∨ t.b = -1)
theorem pr_ok : ∀ (f r k : Nat), k + f ≤ 46 → ∀ t ∈ pr k (naf f r), Ok t
  | 0, r, k, _, t, ht => absurd ht (by simp [naf, pr])
  | f + 1, r, k, h, t, ht => by
    unfold naf at ht
    split at ht
    · exact absurd ht (by simp [pr])
    · unfold pr at ht
      split at ht
      · exact pr_ok f _ (k + 1) (by omega) t ht
      · rename_i c
        rcases List.mem_cons.mp ht with rfl | ht
        · exact ⟨⟨k, rfl, by omega⟩, (dg_cases r).resolve_left c⟩
        · exact pr_ok f _ (k + 1) (by omega) t ht
theorem sh_ok {n : Nat} : ∀ t ∈ sh n, Ok t := pr_ok 41 n 0 (by decide)
theorem pr_len : ∀ (ds : List Int) (k : Nat), (pr k ds).length ≤ ds.length
  | [], _ => Nat.le_refl _
  | d :: ds, k => by
    unfold pr
    have := pr_len ds (k + 1)
    split
    · rw [List.length_cons]; omega
    · rw [List.length_cons, List.length_cons]; omega
theorem sh_len {n : Nat} : (sh n).length ≤ 41 := Nat.le_trans (pr_len _ _) (naf_len _ _)
def Gap : Int → List (T2 Int Int) → Prop
  | _, [] => True
  | lo, t :: ts => lo ≤ t.a ∧ Gap (t.a + 2) ts
theorem Gap.less {lo l2 : Int} (h : l2 ≤ lo) : ∀ {ts : List (T2 Int Int)}, Gap lo ts → Gap l2 ts
  | [], _ => trivial
  | t :: ts, ⟨h1, h2⟩ => ⟨Int.le_trans h h1, h2⟩
theorem gap_naf : ∀ (f r k : Nat), Gap (k : Int) (pr k (naf f r)) ∧ (r % 2 = 0 → Gap ((k : Int) + 1) (pr k (naf f r)))
  | 0, r, k => ⟨trivial, fun _ => trivial⟩
  | f + 1, r, k => by
    have ih := gap_naf f (nx r) (k + 1)
    unfold naf
    split
    · exact ⟨trivial, fun _ => trivial⟩
    · unfold pr
      split
      · have h1 : Gap ((k : Int) + 1) (pr (k + 1) (naf f (nx r))) := by
          have := ih.1
          rw [show (((k + 1 : Nat)) : Int) = (k : Int) + 1 by push_cast; rfl] at this
          exact this
        exact ⟨h1.less (by omega), fun _ => h1⟩
      · rename_i c
        refine ⟨⟨Int.le_refl _, ?_⟩, fun z => absurd (dg_even z) c⟩
        have := ih.2 (dg_odd c)
        rw [show (((k + 1 : Nat)) : Int) + 1 = (k : Int) + 2 by push_cast; omega] at this
        exact this
theorem gap_at : ∀ {ts : List (T2 Int Int)} {lo : Int} {i : Nat} {x y : T2 Int Int}, Gap lo ts → ts[i]? = some x → ts[i + 1]? = some y → x.a + 2 ≤ y.a
  | [], _, _, _, _, _, h, _ => by cases h
  | t :: ts, lo, 0, x, y, ⟨_, g⟩, hx, hy => by
    cases hx
    cases ts with
    | nil => cases hy
    | cons u us =>
      cases hy
      exact g.1
  | t :: ts, lo, i + 1, x, y, ⟨_, g⟩, hx, hy => gap_at g hx hy
theorem sh_nat {n : Nat} {t : T2 Int Int} (h : t ∈ sh n) : ∃ k : Nat, t.a = (k : Int) ∧ k ≤ 45 ∧ (t.b = 1 ∨ t.b = -1) := by
  obtain ⟨⟨k, h1, h2⟩, h3⟩ := sh_ok t h
  exact ⟨k, h1, h2, h3⟩
def rowsF (n : Nat) (other : Int) : List Int := (sh n).map fun t => t.b * 2 ^ t.a.toNat * other
theorem by_shifts_ok {n : Nat} {other : Int} (h0 : 0 < n) (h : n ≤ 1000000) (h1 : -1000000 ≤ other) (h2 : other ≤ 1000000) : F_by_shifts (n : Int) other = some (rowsF n other) := by
  have hl := sh_len (n := n)
  unfold F_by_shifts fb_by_shifts
  simp only [bsome]
  rw [check_ok (by omega) (by omega)]
  simp only [bsome, seqO_nx]
  rw [shifts_of_ok h0 (by omega)]
  simp only [bsome]
  rw [lNew_eq (by omega)]
  simp only [bsome]
  have hc := compO_all (t := fun s : (S_by_shifts × Int) × Int => some true) (f := fun s : (S_by_shifts × Int) × Int => ((iMul s.2 s.1.1.v_other).bind fun x65 => some (x65, (s.1.2, ()))).bind fun x69 => F_doubled x69.1 x69.2.1) (set := fun t : T2 Int Int => (((⟨(n : Int), other⟩ : S_by_shifts), t.a), t.b)) (h := fun t : T2 Int Int => t.b * 2 ^ t.a.toNat * other) (xs := sh n) (fun x _ => rfl) (fun x hx => by
    obtain ⟨k, e1, e2, e3⟩ := sh_nat hx
    show ((iMul x.b other).bind fun x65 => some (x65, (x.a, ()))).bind (fun x69 => F_doubled x69.1 x69.2.1) = _
    rw [iMul_sm ⟨by omega, by omega⟩ ⟨by omega, by omega⟩]
    simp only [bsome]
    have hb : -1000000 ≤ x.b * other ∧ x.b * other ≤ 1000000 := by
      rcases e3 with e | e
      · rw [e]; omega
      · rw [e]; omega
    rw [e1, doubled_ok (by omega) (by omega) (by omega), Int.toNat_natCast]
    congr 1
    grind)
  simp only [bsome, bassoc] at hc ⊢
  rw [hc]
  simp only [bsome, seqO_rt, outF_rt]
  rfl
end LW

set_option Elab.async false
set_option linter.all false
set_option maxRecDepth 100000
set_option exponentiation.threshold 10000
namespace LW
open PL
theorem atI_nat {τ : Type} {l : List τ} {i : Nat} (h : i < l.length) : L2.atI l (i : Int) = l[i]? := by
  unfold L2.atI L2.ixN
  simp [h]
theorem rng_len {lo : Int} {n : Nat} : (rng lo n).length = n := by
  unfold rng
  rw [List.length_map, List.length_range]
theorem neg_loop {n : Int} : ∀ (f m r : Nat) (found : List Int), r ≤ 2 ^ f → f + 1 < m → (found ≠ [] ∨ r ≠ 0) → found.length + f < 1000 →
    whileO lc_lean_row_1 lp_lean_row_0 m ⟨n, found, -(r : Int), 0⟩ = some (.nx ⟨n, found ++ (naf (f + 1) r).map (fun d => -d), 0, 0⟩) := by
  have stop : ∀ (m : Nat) (found : List Int), found ≠ [] → whileO lc_lean_row_1 lp_lean_row_0 (m + 1) ⟨n, found, -((0 : Nat) : Int), 0⟩ = some (.nx ⟨n, found, 0, 0⟩) := fun m found h => by
    have hl : 0 < found.length := List.length_pos_iff.mpr h
    rw [whileO_succ, show lc_lean_row_1 ⟨n, found, -((0 : Nat) : Int), 0⟩ = some false by
      unfold lc_lean_row_1
      simp only [bsome]
      rw [show (!decide (-(((0 : Nat)) : Int) = 0)) = false by decide, if_neg (by decide), decide_eq_false (by omega)], bsome, if_neg (by decide)]
    rfl
  have step : ∀ (m r : Nat) (found : List Int), r ≠ 0 → found.length < 1000 → whileO lc_lean_row_1 lp_lean_row_0 (m + 1) ⟨n, found, -(r : Int), 0⟩ = whileO lc_lean_row_1 lp_lean_row_0 m ⟨n, found ++ [-dg r], -(nx r : Int), 0⟩ := fun m r found h hl => by
    have c1 : lc_lean_row_1 ⟨n, found, -(r : Int), 0⟩ = some true := by
      unfold lc_lean_row_1
      simp only [bsome]
      rw [decide_eq_false (by omega)]
      rfl
    have c2 : lp_lean_row_0 ⟨n, found, -(r : Int), 0⟩ = some (.nx ⟨n, found ++ [-dg r], -(nx r : Int), 0⟩) := by
      have hd := dg_nx r
      unfold lp_lean_row_0
      simp only [bsome, seqO_nx]
      rw [iMod_eq (by decide), iMod_eq (by decide)]
      simp only [bsome, seqO_nx]
      by_cases q : r % 2 = 1
      · rw [decide_eq_true (show (-(r : Int)) % 2 = 1 by omega), if_pos rfl]
        simp only [seqO_nx]
        rw [show (2 : Int) - (-(r : Int)) % 4 = -dg r by unfold dg; rw [if_pos q]; omega, push_eq (by omega)]
        simp only [bsome, seqO_nx]
        rw [iDiv_eq (by decide) (by decide), show (-(r : Int) - -dg r) / 2 = -(nx r : Int) by omega]
        simp only [bsome, seqO_nx]
      · have e0 : dg r = 0 := dg_even (by omega)
        rw [decide_eq_false (show ¬ (-(r : Int)) % 2 = 1 by omega), if_neg (by decide)]
        simp only [seqO_nx]
        rw [push_eq (by omega), e0]
        simp only [bsome, seqO_nx]
        rw [iDiv_eq (by decide) (by decide), show (-(r : Int) - 0) / 2 = -(nx r : Int) by omega]
        simp only [bsome, seqO_nx]
        rfl
    rw [whileO_succ, c1, bsome, if_pos rfl, c2, seqO_nx]
  intro f
  induction f with
  | zero =>
    intro m r found h hm hne hl
    obtain ⟨m, rfl⟩ : ∃ k, m = k + 2 := ⟨m - 2, by omega⟩
    by_cases c : r = 0
    · subst c
      rw [stop _ _ (hne.resolve_right fun z => z rfl), naf_zero, List.map_nil, List.append_nil]
    · rw [step _ _ _ c (by omega), nx_one (by simpa using h), stop _ _ (by simp), naf, if_neg c]
      rfl
  | succ f ih =>
    intro m r found h hm hne hl
    obtain ⟨m, rfl⟩ : ∃ k, m = k + 1 := ⟨m - 1, by omega⟩
    by_cases c : r = 0
    · subst c
      rw [stop _ _ (hne.resolve_right fun z => z rfl), naf_zero, List.map_nil, List.append_nil]
    · rw [step _ _ _ c (by omega), ih m (nx r) _ (nx_le h) (by omega) (.inl (by simp)) (by rw [List.length_append, List.length_singleton]; omega), naf.eq_def (f + 1 + 1)]
      simp [c]
theorem lean_neg {n : Nat} (h0 : 0 < n) (h : n ≤ 2 ^ 40) : F_lean_row (-(n : Int)) = some ((naf 41 n).map fun d => -d).reverse := by
  unfold F_lean_row fb_lean_row
  simp only [bsome, seqO_nx]
  rw [neg_loop 40 FUEL n [] h (by unfold FUEL; omega) (.inr (by omega)) (by simp)]
  simp only [seqO_nx, seqO_rt, outF_rt, bsome, List.nil_append]
def nzF (ds : List Int) : List Int := ds.filter fun d => !decide (d = 0)
theorem nz_comp {σ : Type} (s : σ) (ds : List Int) : compO (fun s : σ × Int => some (!decide (s.2 = 0))) (fun s : σ × Int => some s.2) (fun t : Int => (s, t)) ds = some (nzF ds) := by
  rw [compO_eq (t := fun s : σ × Int => some (!decide (s.2 = 0))) (f := fun s : σ × Int => some s.2) (set := fun t : Int => (s, t)) (p := fun d => !decide (d = 0)) (h := fun d => d) (fun x _ => rfl) (fun x _ _ => rfl), List.map_id']
  rfl
theorem nz_rev (ds : List Int) : (nzF ds.reverse).length = (nzF ds).length := by
  unfold nzF
  rw [List.filter_reverse, List.length_reverse]
theorem nz_neg : ∀ ds : List Int, (nzF (ds.map fun d => -d)).length = (nzF ds).length
  | [] => rfl
  | d :: ds => by
    have ih := nz_neg ds
    unfold nzF at ih ⊢
    rw [List.map_cons]
    by_cases c : d = 0
    · subst c
      rw [List.filter_cons_of_neg (by simp), List.filter_cons_of_neg (by simp), ih]
    · rw [List.filter_cons_of_pos (by simp [c]), List.filter_cons_of_pos (by simp [c]), List.length_cons, List.length_cons, ih]
theorem nz_pr : ∀ (ds : List Int) (k : Nat), (pr k ds).length = (nzF ds).length
  | [], _ => rfl
  | d :: ds, k => by
    have ih := nz_pr ds (k + 1)
    unfold nzF at ih ⊢
    unfold pr
    by_cases c : d = 0
    · rw [if_pos c, List.filter_cons_of_neg (by simp [c]), ih]
    · rw [if_neg c, List.filter_cons_of_pos (by simp [c]), List.length_cons, List.length_cons, ih]
theorem weight_ok {n : Nat} (h0 : 0 < n) (h : n ≤ 1000000) : F_weight (n : Int) = some ((sh n).length : Int) := by
  have hl := naf_len 41 n
  unfold F_weight fb_weight
  simp only [bsome, bassoc]
  rw [lean_ok h0 (by omega)]
  simp only [bsome]
  rw [lNew_eq (by rw [List.length_reverse]; omega)]
  simp only [bsome]
  rw [nz_comp]
  simp only [bsome, seqO_rt, outF_rt]
  rw [nz_rev, ← nz_pr _ 0]
  rfl
theorem weight_neg {n : Nat} (h0 : 0 < n) (h : n ≤ 1000000) : F_weight (-(n : Int)) = some ((sh n).length : Int) := by
  have hl := naf_len 41 n
  unfold F_weight fb_weight
  simp only [bsome, bassoc]
  rw [lean_neg h0 (by omega)]
  simp only [bsome]
  rw [lNew_eq (by rw [List.length_reverse, List.length_map]; omega)]
  simp only [bsome]
  rw [nz_comp]
  simp only [bsome, seqO_rt, outF_rt]
  rw [nz_rev, nz_neg, ← nz_pr _ 0]
  rfl
/-! lean rows -/
theorem naf_digit : ∀ (f r : Nat), ∀ d ∈ naf f r, d = 0 ∨ d = 1 ∨ d = -1
  | 0, _, d, h => absurd h (by simp [naf])
  | f + 1, r, d, h => by
    unfold naf at h
    split at h
    · cases h
    · rcases List.mem_cons.mp h with rfl | h
      · exact dg_cases r
      · exact naf_digit f _ d h
theorem naf_adj : ∀ (f r i : Nat) (x y : Int), (naf f r)[i]? = some x → (naf f r)[i + 1]? = some y → x = 0 ∨ y = 0
  | 0, _, _, _, _, h, _ => by cases h
  | f + 1, r, i, x, y, hx, hy => by
    unfold naf at hx hy
    split at hx
    · cases hx
    · rename_i c
      rw [if_neg c] at hy
      cases i with
      | zero =>
        cases hx
        rw [List.getElem?_cons_succ] at hy
        by_cases q : dg r = 0
        · exact .inl q
        · right
          have e := dg_odd q
          cases f with
          | zero => cases hy
          | succ f =>
            unfold naf at hy
            split at hy
            · cases hy
            · cases hy
              exact dg_even e
      | succ i =>
        rw [List.getElem?_cons_succ] at hx hy
        exact naf_adj f _ i x y hx hy
theorem naf_last : ∀ (f r : Nat), r ≠ 0 → r ≤ 2 ^ f → ∃ d, (naf (f + 1) r).getLast? = some d ∧ d ≠ 0
  | 0, r, h0, h => by
    have : r = 1 := by
      have : r ≤ 1 := by simpa using h
      omega
    subst this
    exact ⟨1, rfl, by decide⟩
  | f + 1, r, h0, h => by
    rw [naf, if_neg h0]
    have hd := dg_nx r
    by_cases c : nx r = 0
    · rw [c, naf_zero]
      refine ⟨dg r, rfl, fun z => ?_⟩
      rw [z, c] at hd
      omega
    · obtain ⟨d, e, hne⟩ := naf_last f (nx r) c (nx_le h)
      refine ⟨d, ?_, hne⟩
      rw [List.getLast?_cons, e]
      rfl
theorem is_lean_ok {n : Nat} (h0 : 0 < n) (h : n ≤ 1000000) : F_is_lean (naf 41 n).reverse = some true := by
  have hl := naf_len 41 n
  obtain ⟨d, hd, hd0⟩ := naf_last 40 n (by omega) (by omega)
  have hne : naf 41 n ≠ [] := fun z => by rw [show (40 + 1 : Nat) = 41 from rfl, z] at hd; cases hd
  have hpos : 0 < (naf 41 n).length := List.length_pos_iff.mpr hne
  generalize hR : (naf 41 n).reverse = R
  have hRl : R.length = (naf 41 n).length := by rw [← hR, List.length_reverse]
  have hat : ∀ i, i < R.length → R[i]? = (naf 41 n)[(naf 41 n).length - 1 - i]? := fun i hi => by
    rw [← hR, List.getElem?_reverse (by omega)]
  have hmem : ∀ x ∈ R, x = 0 ∨ x = 1 ∨ x = -1 := fun x hx => naf_digit 41 n x (by rw [← hR, List.mem_reverse] at hx; exact hx)
  unfold F_is_lean fb_is_lean
  simp only [bsome, bassoc]
  rw [decide_eq_false (by omega), if_neg (by decide), lNew_eq (by omega)]
  simp only [bsome]
  rw [compO_all (t := fun s : S_is_lean × Int => some true) (f := fun s : S_is_lean × Int => some (decide (s.2 ∈ [(-1 : Int), 0, 1]))) (set := fun t : Int => ((⟨R⟩ : S_is_lean), t)) (h := fun _ => true) (fun x _ => rfl) (fun x hx => by
    show some (decide (x ∈ [(-1 : Int), 0, 1])) = some true
    rcases hmem x hx with e | e | e <;> rw [e] <;> rfl)]
  simp only [bsome]
  rw [show ((R.map fun _ => true).all id) = true by simp]
  simp only [Bool.not_true, Bool.false_eq_true, if_false]
  have k1 : (if decide ((R.length : Int) > 1) = true then (L2.atI R 0).bind fun x93 => some (decide (x93 = 0)) else some false) = some false := by
    have a0 : L2.atI R 0 = some d := by
      rw [show (0 : Int) = ((0 : Nat) : Int) from rfl, LW.atI_nat (by omega), hat 0 (by omega), Nat.sub_zero, ← List.getLast?_eq_getElem?]
      exact hd
    rw [a0, bsome, decide_eq_false hd0]
    split <;> rfl
  rw [k1]
  simp only [bsome, Bool.false_eq_true, if_false, seqO_nx]
  rw [rng1_eq (by omega) (by omega)]
  simp only [bsome]
  rw [lNew_eq (by rw [rng_len]; omega)]
  simp only [bsome]
  rw [compO_all (t := fun s : S_is_lean × Int => some true) (f := fun s : S_is_lean × Int => (L2.atI s.1.v_row s.2).bind fun a => if decide (a = 0) = true then some true else (L2.atI s.1.v_row (s.2 + 1)).bind fun x152 => some (decide (x152 = 0))) (set := fun t : Int => ((⟨R⟩ : S_is_lean), t)) (h := fun _ => true) (fun x _ => rfl) (fun x hx => by
    have hr := rng_mem hx
    obtain ⟨i, rfl⟩ : ∃ i : Nat, x = (i : Int) := ⟨x.toNat, by omega⟩
    have hi : i + 1 < R.length := by omega
    show ((L2.atI R (i : Int)).bind fun a => if decide (a = 0) = true then some true else (L2.atI R ((i : Int) + 1)).bind fun x152 => some (decide (x152 = 0))) = some true
    obtain ⟨u, hu⟩ : ∃ u, (naf 41 n)[(naf 41 n).length - 1 - i]? = some u := ⟨_, List.getElem?_eq_getElem (by omega)⟩
    obtain ⟨v, hv⟩ : ∃ v, (naf 41 n)[(naf 41 n).length - 1 - (i + 1)]? = some v := ⟨_, List.getElem?_eq_getElem (by omega)⟩
    rw [LW.atI_nat (by omega), hat i (by omega), hu, show (i : Int) + 1 = ((i + 1 : Nat) : Int) by push_cast; rfl, LW.atI_nat hi, hat (i + 1) hi, hv]
    simp only [bsome]
    have ad := naf_adj 41 n ((naf 41 n).length - 1 - (i + 1)) v u hv (by rw [show (naf 41 n).length - 1 - (i + 1) + 1 = (naf 41 n).length - 1 - i by omega]; exact hu)
    by_cases q : u = 0
    · rw [decide_eq_true q, if_pos rfl]
    · rw [decide_eq_false q, if_neg (by decide), decide_eq_true (ad.resolve_right q)])]
  simp only [bsome, seqO_rt, outF_rt]
  simp
end LW

set_option Elab.async false
set_option linter.all false
set_option maxRecDepth 100000
set_option exponentiation.threshold 10000
namespace LW
open PL
variable {Γ Γb ρ ι : Type}
theorem forO_app {set : Γ → ι → Γb} {b : Γb → Option (Out Γ ρ)} : ∀ {xs ys : List ι} {g g' : Γ}, forO set b xs g = some (.nx g') → forO set b (xs ++ ys) g = forO set b ys g'
  | [], ys, g, g', h => by
    rw [forO_nil] at h
    cases h
    rfl
  | x :: xs, ys, g, g', h => by
    rw [forO_cons] at h
    rw [List.cons_append, forO_cons]
    cases e : b (set g x) with
    | none => rw [e, seqO_none] at h; cases h
    | some o =>
      cases o with
      | nx g1 =>
        rw [e, seqO_nx] at h
        rw [seqO_nx]
        exact forO_app h
      | rt r => rw [e, seqO_rt] at h; cases h
/-! balanced digits of an odd base b = 2h + 1 -/
def bdg (h : Nat) (r : Int) : Int := (r + h) % (2 * h + 1 : Nat) - h
def bnx (h : Nat) (r : Int) : Int := (r + h) / (2 * h + 1 : Nat)
def bal (h : Nat) : Nat → Int → List Int
  | 0, _ => []
  | f + 1, r => if r = 0 then [] else bdg h r :: bal h f (bnx h r)
theorem bdg_bnx (h : Nat) (r : Int) : bdg h r + (2 * h + 1 : Nat) * bnx h r = r := by
  unfold bdg bnx
  have := Int.emod_add_mul_ediv (r + h) (2 * h + 1 : Nat)
  omega
theorem bdg_bd (h : Nat) (r : Int) : -(h : Int) ≤ bdg h r ∧ bdg h r ≤ h := by
  unfold bdg
  have h1 := Int.emod_nonneg (r + h) (b := ((2 * h + 1 : Nat) : Int)) (by omega)
  have h2 := Int.emod_lt_of_pos (r + h) (b := ((2 * h + 1 : Nat) : Int)) (by omega)
  push_cast at h1 h2 ⊢
  constructor <;> omega
theorem bnx_bd {h k : Nat} {r : Int} (hh : 1 ≤ h) (h1 : -(2 ^ (k + 1)) ≤ r) (h2 : r ≤ 2 ^ (k + 1)) : -(2 ^ k) ≤ bnx h r ∧ bnx h r ≤ 2 ^ k := by
  have hM : (0 : Int) < 2 ^ k := two_pow_pos
  rw [Int.pow_succ] at h1 h2
  generalize (2 : Int) ^ k = M at *
  have hhM : M ≤ (h : Int) * M := by
    have := Int.mul_le_mul_of_nonneg_right (show (1 : Int) ≤ h by omega) (Int.le_of_lt hM)
    omega
  have hb : (0 : Int) < (2 * h + 1 : Nat) := by omega
  have eb : ((2 * h + 1 : Nat) : Int) = 2 * (h : Int) + 1 := by push_cast; rfl
  unfold bnx
  constructor
  · rw [Int.le_ediv_iff_mul_le hb, eb]
    have : -M * (2 * (h : Int) + 1) = -(2 * ((h : Int) * M)) - M := by grind
    omega
  · have : (r + h) / ((2 * h + 1 : Nat) : Int) < M + 1 := by
      rw [Int.ediv_lt_iff_lt_mul hb, eb]
      have : (M + 1) * (2 * (h : Int) + 1) = 2 * ((h : Int) * M) + M + 2 * (h : Int) + 1 := by grind
      omega
    omega
theorem bnx_one {h : Nat} {r : Int} (hh : 1 ≤ h) (h1 : -1 ≤ r) (h2 : r ≤ 1) : bnx h r = 0 := by
  unfold bnx
  exact Int.ediv_eq_zero_of_lt (by omega) (by push_cast; omega)
theorem bal_zero (h f : Nat) : bal h f 0 = [] := by
  cases f with
  | zero => rfl
  | succ f => unfold bal; rw [if_pos rfl]
theorem bal_len (h : Nat) : ∀ (f : Nat) (r : Int), (bal h f r).length ≤ f
  | 0, _ => Nat.le_refl _
  | f + 1, r => by
    unfold bal
    split
    · exact Nat.zero_le _
    · rw [List.length_cons]
      exact Nat.succ_le_succ (bal_len h f _)
theorem bal_mem {h : Nat} : ∀ (f : Nat) (r : Int), ∀ d ∈ bal h f r, -(h : Int) ≤ d ∧ d ≤ h
  | 0, _, d, hd => absurd hd (by simp [bal])
  | f + 1, r, d, hd => by
    unfold bal at hd
    split at hd
    · cases hd
    · rcases List.mem_cons.mp hd with rfl | hd
      · exact bdg_bd h r
      · exact bal_mem f _ d hd
theorem rows_step {n : Int} {h m : Nat} {r : Int} {found : List Int} (hh : 1 ≤ h) (hh2 : h ≤ 17) (hr : r ≠ 0) (hl : found.length < 1000) :
    whileO lc_digits_of_rows_1 lp_digits_of_rows_0 (m + 1) ⟨n, ((2 * h + 1 : Nat) : Int), found, r, 0⟩ = whileO lc_digits_of_rows_1 lp_digits_of_rows_0 m ⟨n, ((2 * h + 1 : Nat) : Int), found ++ [bdg h r], bnx h r, 0⟩ := by
  have hbn := bdg_bnx h r
  have c1 : lc_digits_of_rows_1 ⟨n, ((2 * h + 1 : Nat) : Int), found, r, 0⟩ = some true := by
    unfold lc_digits_of_rows_1
    simp only [bsome]
    rw [decide_eq_false hr]
    rfl
  have c2 : lp_digits_of_rows_0 ⟨n, ((2 * h + 1 : Nat) : Int), found, r, 0⟩ = some (.nx ⟨n, ((2 * h + 1 : Nat) : Int), found ++ [bdg h r], bnx h r, 0⟩) := by
    have eh : iDiv ((2 * h + 1 : Nat) : Int) 2 = some (h : Int) := by
      rw [iDiv_eq (by decide) (by decide)]
      congr 1
      omega
    unfold lp_digits_of_rows_0
    simp only [bsome, bassoc]
    rw [eh]
    simp only [bsome]
    rw [iMod_eq (by omega)]
    simp only [bsome, seqO_nx]
    rw [show (r + (h : Int)) % ((2 * h + 1 : Nat) : Int) - (h : Int) = bdg h r from rfl, push_eq (by omega)]
    simp only [bsome, seqO_nx]
    rw [iDiv_eq (by omega) (by omega)]
    have e2 : (r - bdg h r) / ((2 * h + 1 : Nat) : Int) = bnx h r := by
      have e : r - bdg h r = ((2 * h + 1 : Nat) : Int) * bnx h r := by omega
      rw [e, Int.mul_ediv_cancel_left _ (by omega)]
    rw [e2]
    simp only [bsome, seqO_nx]
  rw [whileO_succ, c1, bsome, if_pos rfl, c2, seqO_nx]
theorem rows_stop {n : Int} {b : Int} {m : Nat} {found : List Int} (h : found ≠ []) : whileO lc_digits_of_rows_1 lp_digits_of_rows_0 (m + 1) ⟨n, b, found, 0, 0⟩ = some (.nx ⟨n, b, found, 0, 0⟩) := by
  have hl : 0 < found.length := List.length_pos_iff.mpr h
  rw [whileO_succ, show lc_digits_of_rows_1 ⟨n, b, found, 0, 0⟩ = some false by
    unfold lc_digits_of_rows_1
    simp only [bsome]
    rw [show (!decide True) = false by decide, if_neg (by decide), decide_eq_false (by omega)], bsome, if_neg (by decide)]
theorem rows_loop {n : Int} {h : Nat} (hh : 1 ≤ h) (hh2 : h ≤ 17) : ∀ (f m : Nat) (r : Int) (found : List Int), -(2 ^ f) ≤ r → r ≤ 2 ^ f → f + 1 < m → (found ≠ [] ∨ r ≠ 0) → found.length + f < 1000 →
    whileO lc_digits_of_rows_1 lp_digits_of_rows_0 m ⟨n, ((2 * h + 1 : Nat) : Int), found, r, 0⟩ = some (.nx ⟨n, ((2 * h + 1 : Nat) : Int), found ++ bal h (f + 1) r, 0, 0⟩) := by
  intro f
  induction f with
  | zero =>
    intro m r found h1 h2 hm hne hl
    obtain ⟨m, rfl⟩ : ∃ k, m = k + 2 := ⟨m - 2, by omega⟩
    by_cases c : r = 0
    · subst c
      rw [rows_stop (hne.resolve_right fun z => z rfl), bal_zero, List.append_nil]
    · rw [rows_step hh hh2 c (by omega), bnx_one hh (by simpa using h1) (by simpa using h2), rows_stop (by simp), bal, if_neg c]
      rfl
  | succ f ih =>
    intro m r found h1 h2 hm hne hl
    obtain ⟨m, rfl⟩ : ∃ k, m = k + 1 := ⟨m - 1, by omega⟩
    by_cases c : r = 0
    · subst c
      rw [rows_stop (hne.resolve_right fun z => z rfl), bal_zero, List.append_nil]
    · obtain ⟨b1, b2⟩ := bnx_bd (h := h) hh h1 h2
      rw [rows_step hh hh2 c (by omega), ih m (bnx h r) _ b1 b2 (by omega) (.inl (by simp)) (by rw [List.length_append, List.length_singleton]; omega), bal.eq_def h (f + 1 + 1)]
      simp [c]
def B20 (r : Int) : Prop := -(2 ^ 20) ≤ r ∧ r ≤ 2 ^ 20
theorem rows_ok {h : Nat} {r : Int} (hh : 1 ≤ h) (hh2 : h ≤ 17) (h0 : r ≠ 0) (hr : B20 r) : F_digits_of_rows r ((2 * h + 1 : Nat) : Int) = some (bal h 21 r) := by
  unfold F_digits_of_rows fb_digits_of_rows
  simp only [bsome, seqO_nx]
  rw [rows_loop hh hh2 20 FUEL r [] hr.1 hr.2 (by unfold FUEL; omega) (.inr h0) (by simp)]
  simp only [seqO_nx, seqO_rt, outF_rt, bsome, List.nil_append]
theorem checkb_ok {h : Nat} (hh : 1 ≤ h) (hh2 : h ≤ 17) : F_check_base ((2 * h + 1 : Nat) : Int) = some () := by
  unfold F_check_base fb_check_base
  simp only [bsome]
  rw [decide_eq_true (show (3 : Int) ≤ ((2 * h + 1 : Nat) : Int) by omega), if_pos rfl, decide_eq_true (show ((2 * h + 1 : Nat) : Int) ≤ 35 by omega)]
  simp only [bsome, Bool.not_true, Bool.false_eq_true, if_false]
  rw [iMod_eq (by decide)]
  simp only [bsome]
  rw [decide_eq_false (by omega)]
  simp only [bsome, Bool.false_eq_true, if_false, seqO_nx, outF_nx]
theorem row_of_ok {h : Nat} {r : Int} (hh : 1 ≤ h) (hh2 : h ≤ 17) (h0 : r ≠ 0) (hr : B20 r) : F_row_of r ((2 * h + 1 : Nat) : Int) = some (bal h 21 r).reverse := by
  unfold F_row_of fb_row_of
  simp only [bsome]
  rw [checkb_ok hh hh2]
  simp only [bsome, seqO_nx]
  rw [rows_ok hh hh2 h0 hr]
  simp only [bsome, seqO_rt, outF_rt]
theorem worth_bal {h : Nat} {R : List Int} (hh : 1 ≤ h) (hh2 : h ≤ 17) : ∀ (f : Nat) (r : Int), f ≤ 30 → -(2 ^ f) ≤ r → r ≤ 2 ^ f →
    forO (fun (s : S_worth_of) (t : Int) => { s with v_digit := t }) lp_worth_of_0 (bal h (f + 1) r).reverse ⟨R, ((2 * h + 1 : Nat) : Int), 0, 0⟩ = some (.nx ⟨R, ((2 * h + 1 : Nat) : Int), r, 0⟩) := by
  have step : ∀ (q r : Int), -(2 ^ 30) ≤ q → q ≤ 2 ^ 30 → bdg h r + ((2 * h + 1 : Nat) : Int) * q = r → lp_worth_of_0 ⟨R, ((2 * h + 1 : Nat) : Int), q, bdg h r⟩ = some (.nx ⟨R, ((2 * h + 1 : Nat) : Int), r, 0⟩) := fun q r h1 h2 e => by
    unfold lp_worth_of_0
    simp only [bsome]
    rw [iMul_sm ⟨by omega, by omega⟩ ⟨by omega, by omega⟩]
    simp only [bsome, seqO_nx]
    rw [show q * ((2 * h + 1 : Nat) : Int) + bdg h r = r by rw [Int.mul_comm]; omega]
  intro f
  induction f with
  | zero =>
    intro r hf h1 h2
    by_cases c : r = 0
    · subst c
      rw [bal_zero]
      rfl
    · have e := bnx_one (h := h) hh (by simpa using h1) (by simpa using h2)
      have hb := bdg_bnx h r
      rw [bal, if_neg c, e, bal_zero, List.reverse_cons, List.reverse_nil, List.nil_append, forO_cons]
      rw [e] at hb
      rw [step 0 r (by decide) (by decide) hb, seqO_nx, forO_nil]
  | succ f ih =>
    intro r hf h1 h2
    by_cases c : r = 0
    · subst c
      rw [bal_zero]
      rfl
    · obtain ⟨b1, b2⟩ := bnx_bd (h := h) hh h1 h2
      have hp := two_pow_lt (k := f) (m := 30) (by omega)
      rw [bal, if_neg c, List.reverse_cons, forO_app (ih (bnx h r) (by omega) b1 b2), forO_cons]
      rw [step (bnx h r) r (by omega) (by omega) (bdg_bnx h r), seqO_nx, forO_nil]
theorem number_of_ok {h : Nat} {r : Int} (hh : 1 ≤ h) (hh2 : h ≤ 17) (h0 : r ≠ 0) (hr : B20 r) : F_number_of (bal h 21 r).reverse ((2 * h + 1 : Nat) : Int) = some r := by
  have hl := bal_len h 21 r
  have hne : bal h 21 r ≠ [] := by
    rw [show (21 : Nat) = 20 + 1 from rfl, bal, if_neg h0]
    exact List.cons_ne_nil _ _
  have hpos : 0 < (bal h 21 r).length := List.length_pos_iff.mpr hne
  have ck : F_check_row (bal h 21 r).reverse ((2 * h + 1 : Nat) : Int) = some () := by
    unfold F_check_row fb_check_row
    simp only [bsome]
    rw [checkb_ok hh hh2]
    simp only [bsome, seqO_nx, List.length_reverse]
    rw [decide_eq_false (show ¬ ((bal h 21 r).length : Int) = 0 by omega)]
    simp only [bsome, Bool.false_eq_true, if_false, seqO_nx]
    rw [decide_eq_false (show ¬ ((bal h 21 r).reverse.length : Int) > 60 by rw [List.length_reverse]; omega)]
    simp only [bsome, Bool.false_eq_true, if_false, seqO_nx]
    rw [forO_same (g := (⟨(bal h 21 r).reverse, ((2 * h + 1 : Nat) : Int), 0, 0⟩ : S_check_row)) fun t ht => by
      obtain ⟨q, hq, rfl⟩ := List.mem_map.mp ht
      have hm : q.1 ∈ (bal h 21 r).reverse := by
        have := List.mem_zipIdx hq
        rw [this.2.2]
        exact List.getElem_mem _
      obtain ⟨b1, b2⟩ := bal_mem 21 r q.1 (List.mem_reverse.mp hm)
      unfold lp_check_row_0
      simp only [bsome, bassoc]
      rw [iDiv_eq (by decide) (by decide)]
      simp only [bsome]
      rw [decide_eq_false (by omega)]
      simp only [Bool.false_eq_true, if_false, seqO_nx]]
    simp only [seqO_nx, outF_nx]
  unfold F_number_of fb_number_of
  simp only [bsome]
  rw [ck]
  simp only [bsome, seqO_nx]
  unfold F_worth_of fb_worth_of
  simp only [bsome, seqO_nx]
  rw [worth_bal hh hh2 20 r (by decide) hr.1 hr.2]
  simp only [bsome, seqO_nx, seqO_rt, outF_rt]
end LW

set_option Elab.async false
set_option linter.all false
set_option maxRecDepth 100000
set_option exponentiation.threshold 10000
namespace LW
open PL
/-! two pans -/
def p1 (c : Int) : Nat → List Int → List Int
  | _, [] => []
  | i, d :: ds => if d = c then 3 ^ i :: p1 c (i + 1) ds else p1 c (i + 1) ds
def v3 : List Int → Int
  | [] => 0
  | d :: ds => d + 3 * v3 ds
theorem p1_cons (c : Int) (i : Nat) (d : Int) (ds : List Int) : p1 c i (d :: ds) = if d = c then 3 ^ i :: p1 c (i + 1) ds else p1 c (i + 1) ds := rfl
theorem p1_len (c : Int) : ∀ (ds : List Int) (i : Nat), (p1 c i ds).length = ds.count c
  | [], _ => rfl
  | d :: ds, i => by
    have ih := p1_len c ds (i + 1)
    unfold p1
    by_cases q : d = c
    · rw [if_pos q, List.length_cons, ih, q, List.count_cons_self]
    · rw [if_neg q, ih, List.count_cons_of_ne q]
theorem p1_sum : ∀ (ds : List Int) (i : Nat), (∀ d ∈ ds, d = 0 ∨ d = 1 ∨ d = -1) → (p1 1 i ds).sum - (p1 (-1) i ds).sum = 3 ^ i * v3 ds
  | [], i, _ => by simp [p1, v3]
  | d :: ds, i, h => by
    have ih := p1_sum ds (i + 1) fun x hx => h x (List.mem_cons_of_mem _ hx)
    rw [Int.pow_succ] at ih
    unfold p1 v3
    rcases h d List.mem_cons_self with e | e | e
    · subst e
      rw [if_neg (by decide), if_neg (by decide), ih]
      grind
    · subst e
      rw [if_pos rfl, if_neg (by decide), List.sum_cons]
      grind
    · subst e
      rw [if_neg (by decide), if_pos rfl, List.sum_cons]
      grind
theorem p1_nz : ∀ (ds : List Int) (i : Nat), (∀ d ∈ ds, d = 0 ∨ d = 1 ∨ d = -1) → (p1 1 i ds).length + (p1 (-1) i ds).length = (nzF ds).length
  | [], i, _ => rfl
  | d :: ds, i, h => by
    have ih := p1_nz ds (i + 1) fun x hx => h x (List.mem_cons_of_mem _ hx)
    unfold nzF at ih ⊢
    unfold p1
    rcases h d List.mem_cons_self with e | e | e
    · subst e
      rw [if_neg (by decide), if_neg (by decide), List.filter_cons_of_neg (by decide), ih]
    · subst e
      rw [if_pos rfl, if_neg (by decide), List.filter_cons_of_pos (by decide), List.length_cons, List.length_cons]
      omega
    · subst e
      rw [if_neg (by decide), if_pos rfl, List.filter_cons_of_pos (by decide), List.length_cons, List.length_cons]
      omega
theorem three_bd {i : Nat} (h : i ≤ 60) : (0 : Int) < 3 ^ i ∧ (3 : Int) ^ i < 2 ^ 100 := by
  have h1 : (3 : Nat) ^ i ≤ 3 ^ 60 := Nat.pow_le_pow_right (by decide) h
  have h2 : ((3 ^ i : Nat) : Int) ≤ ((3 ^ 60 : Nat) : Int) := by exact_mod_cast h1
  have h3 : (3 : Int) ^ i = ((3 ^ i : Nat) : Int) := by push_cast; rfl
  exact ⟨Int.pow_pos (by decide), by rw [h3]; omega⟩
theorem pans_loop {n : Int} : ∀ (ds : List Int) (i : Nat) (one two : List Int), i + ds.length ≤ 60 → one.length + ds.length ≤ 1000 → two.length + ds.length ≤ 1000 →
    forO (fun (s : S_pans) (t : Int) => { s with v_digit := t }) lp_pans_0 ds ⟨n, one, two, 3 ^ i, 0⟩ = some (.nx ⟨n, one ++ p1 1 i ds, two ++ p1 (-1) i ds, 3 ^ (i + ds.length), 0⟩)
  | [], i, one, two, _, _, _ => by simp [p1, forO_nil]
  | d :: ds, i, one, two, hi, h1, h2 => by
    rw [List.length_cons] at hi h1 h2
    obtain ⟨b1, b2⟩ := three_bd (i := i) (by omega)
    have hm : iMul 3 ((3 : Int) ^ i) = some (3 ^ (i + 1)) := by
      rw [iMul_sm (by decide) ⟨by omega, by omega⟩, Int.pow_succ, Int.mul_comm]
    have st : lp_pans_0 ⟨n, one, two, 3 ^ i, d⟩ = some (.nx ⟨n, (if d = 1 then one ++ [3 ^ i] else one), (if d = -1 then two ++ [3 ^ i] else two), 3 ^ (i + 1), 0⟩) := by
      unfold lp_pans_0
      simp only [bsome]
      by_cases q1 : d = 1
      · subst q1
        rw [if_neg (show ¬ (1 : Int) = -1 by decide), if_pos rfl]
        simp only [decide_true, if_true]
        rw [push_eq (by omega)]
        simp only [bsome, seqO_nx]
        rw [hm]
        simp only [bsome, seqO_nx]
      · rw [decide_eq_false q1, if_neg q1, if_neg (show ¬ false = true by decide)]
        by_cases q2 : d = -1
        · rw [decide_eq_true q2, if_pos q2]
          simp only [if_true]
          rw [push_eq (by omega)]
          simp only [bsome, seqO_nx]
          rw [hm]
          simp only [bsome, seqO_nx]
        · rw [decide_eq_false q2, if_neg q2, if_neg (show ¬ false = true by decide)]
          simp only [bsome, seqO_nx]
          rw [hm]
          simp only [bsome, seqO_nx]
    rw [forO_cons]
    show seqO (lp_pans_0 ⟨n, one, two, 3 ^ i, d⟩) _ = _
    rw [st, seqO_nx, pans_loop ds (i + 1) _ _ (by omega) (by
      split
      · rw [List.length_append, List.length_singleton]; omega
      · omega) (by
      split
      · rw [List.length_append, List.length_singleton]; omega
      · omega), List.length_cons, show i + 1 + ds.length = i + (ds.length + 1) by omega]
    congr 2
    rw [p1_cons, p1_cons]
    congr 1
    · split
      · rw [List.append_assoc]; rfl
      · rfl
    · split
      · rw [List.append_assoc]; rfl
      · rfl
theorem v3_bal : ∀ (f : Nat) (r : Int), -(2 ^ f) ≤ r → r ≤ 2 ^ f → v3 (bal 1 (f + 1) r) = r
  | f, r, h1, h2 => by
    by_cases c : r = 0
    · subst c; rw [bal_zero]; rfl
    · have hb := bdg_bnx 1 r
      rw [bal, if_neg c, v3]
      have e : v3 (bal 1 f (bnx 1 r)) = bnx 1 r := by
        cases f with
        | zero =>
          rw [bnx_one (h := 1) (by decide) (by simpa using h1) (by simpa using h2)]
          rfl
        | succ f =>
          obtain ⟨b1, b2⟩ := bnx_bd (h := 1) (by decide) h1 h2
          exact v3_bal f _ b1 b2
      rw [e]
      have e3 : ((2 * 1 + 1 : Nat) : Int) = 3 := rfl
      rw [e3] at hb
      exact hb
theorem bal1_mem {r : Int} : ∀ d ∈ bal 1 21 r, d = 0 ∨ d = 1 ∨ d = -1 := fun d hd => by
  obtain ⟨h1, h2⟩ := bal_mem (h := 1) 21 r d hd
  omega
theorem pans_ok {n : Nat} (h0 : 0 < n) (h : n ≤ 1000000) : F_pans (n : Int) = some ⟨p1 1 0 (bal 1 21 n), p1 (-1) 0 (bal 1 21 n)⟩ := by
  have hl := bal_len 1 21 (n : Int)
  unfold F_pans fb_pans
  simp only [bsome]
  rw [decide_eq_false (by omega)]
  simp only [Bool.false_eq_true, if_false, seqO_nx]
  rw [show (3 : Int) = ((2 * 1 + 1 : Nat) : Int) from rfl, rows_ok (h := 1) (by decide) (by decide) (by omega) ⟨by omega, by omega⟩]
  simp only [bsome]
  have := pans_loop (n := (n : Int)) (bal 1 21 n) 0 [] [] (by omega) (by simp; omega) (by simp; omega)
  rw [Int.pow_zero] at this
  rw [this]
  simp only [bsome, seqO_nx, seqO_rt, outF_rt, List.nil_append]
/-! the binary chain -/
def bin : Nat → Nat → List Int
  | 0, _ => []
  | f + 1, r => if r = 0 then [] else ((r % 2 : Nat) : Int) :: bin f (r / 2)
theorem bin_len : ∀ (f r : Nat), (bin f r).length ≤ f
  | 0, _ => Nat.le_refl _
  | f + 1, r => by
    unfold bin
    split
    · exact Nat.zero_le _
    · rw [List.length_cons]
      exact Nat.succ_le_succ (bin_len f _)
theorem half {r k : Nat} (h : r < 2 ^ (k + 1)) : r / 2 < 2 ^ k := by
  rw [Nat.pow_succ] at h
  omega
theorem bin_loop {n : Int} : ∀ (f m r : Nat) (found : List Int), r < 2 ^ f → f < m → found.length + f < 1000 →
    whileO lc_digits_of_numerals_1 lp_digits_of_numerals_0 m ⟨n, 2, found, (r : Int)⟩ = some (.nx ⟨n, 2, found ++ bin f r, 0⟩)
  | 0, m, r, found, h, hm, hl => by
    obtain ⟨m, rfl⟩ : ∃ k, m = k + 1 := ⟨m - 1, by omega⟩
    have h0 : r = 0 := by simpa using h
    subst h0
    rw [whileO_succ]
    simp [lc_digits_of_numerals_1, bin]
  | f + 1, m, r, found, h, hm, hl => by
    obtain ⟨m, rfl⟩ : ∃ k, m = k + 1 := ⟨m - 1, by omega⟩
    by_cases c : r = 0
    · subst c
      rw [whileO_succ]
      simp [lc_digits_of_numerals_1, bin]
    · have c1 : lc_digits_of_numerals_1 ⟨n, 2, found, (r : Int)⟩ = some true := by
        unfold lc_digits_of_numerals_1
        simp only [bsome]
        rw [decide_eq_true (by omega)]
      have c2 : lp_digits_of_numerals_0 ⟨n, 2, found, (r : Int)⟩ = some (.nx ⟨n, 2, found ++ [((r % 2 : Nat) : Int)], ((r / 2 : Nat) : Int)⟩) := by
        unfold lp_digits_of_numerals_0
        simp only [bsome, bassoc]
        rw [show (2 : Int) = ((2 : Nat) : Int) from rfl, iMod_nat (by decide)]
        simp only [bsome]
        rw [push_eq (by omega)]
        simp only [bsome, seqO_nx]
        rw [iDiv_nat (by decide) (by decide)]
        simp only [bsome, seqO_nx]
      rw [whileO_succ, c1, bsome, if_pos rfl, c2, seqO_nx, bin_loop f m (r / 2) _ (half h) (by omega) (by rw [List.length_append, List.length_singleton]; omega), bin.eq_def (f + 1)]
      simp [c]
def bits (n : Nat) : List Int := ((n % 2 : Nat) : Int) :: bin 20 (n / 2)
theorem digits_ok {n : Nat} (h : n ≤ 1000000) : F_digits_of_numerals (n : Int) 2 = some (bits n) := by
  unfold F_digits_of_numerals fb_digits_of_numerals
  simp only [bsome, bassoc]
  rw [show (2 : Int) = ((2 : Nat) : Int) from rfl, iMod_nat (by decide)]
  simp only [bsome, seqO_nx]
  rw [iDiv_nat (by decide) (by decide)]
  simp only [bsome, seqO_nx]
  rw [show ((2 : Nat) : Int) = 2 from rfl, bin_loop 20 FUEL (n / 2) _ (by omega) (by unfold FUEL; omega) (by simp)]
  simp only [seqO_nx, seqO_rt, outF_rt, bsome]
  rfl
end LW

set_option Elab.async false
set_option linter.all false
set_option maxRecDepth 100000
set_option exponentiation.threshold 10000
namespace LW
open PL
def ch : Int → List Int → List Int
  | _, [] => []
  | x, d :: ds => if d = 1 then 2 * x :: (2 * x + 1) :: ch (2 * x + 1) ds else 2 * x :: ch (2 * x) ds
theorem ch_cons (x d : Int) (ds : List Int) : ch x (d :: ds) = if d = 1 then 2 * x :: (2 * x + 1) :: ch (2 * x + 1) ds else 2 * x :: ch (2 * x) ds := rfl
theorem ch_len : ∀ (ds : List Int) (x : Int), ds.length ≤ (ch x ds).length ∧ (ch x ds).length ≤ 2 * ds.length
  | [], x => ⟨Nat.le_refl _, Nat.le_refl _⟩
  | d :: ds, x => by
    rw [ch_cons]
    split
    · have := ch_len ds (2 * x + 1)
      simp only [List.length_cons]
      omega
    · have := ch_len ds (2 * x)
      simp only [List.length_cons]
      omega
theorem ch_rel : ∀ (ds : List Int) (x : Int), 1 ≤ x → ∀ (i : Nat) (u v : Int), (x :: ch x ds)[i]? = some u → (x :: ch x ds)[i + 1]? = some v → 1 ≤ u ∧ (v = 2 * u ∨ v = u + 1)
  | [], x, hx, i, u, v, hu, hv => by
    rw [List.getElem?_cons_succ] at hv
    cases hv
  | d :: ds, x, hx, i, u, v, hu, hv => by
    rw [ch_cons] at hu hv
    by_cases q : d = 1
    · rw [if_pos q] at hu hv
      rcases i with _ | _ | i
      · cases hu; cases hv; exact ⟨hx, .inl rfl⟩
      · cases hu; cases hv; exact ⟨by omega, .inr rfl⟩
      · exact ch_rel ds (2 * x + 1) (by omega) i u v hu hv
    · rw [if_neg q] at hu hv
      rcases i with _ | i
      · cases hu; cases hv; exact ⟨hx, .inl rfl⟩
      · exact ch_rel ds (2 * x) (by omega) i u v hu hv
theorem ch_bd : ∀ (ds : List Int) (x : Int) (k : Nat), 0 ≤ x → x < 2 ^ k → ∀ y ∈ x :: ch x ds, 0 ≤ y ∧ y < 2 ^ (k + ds.length)
  | [], x, k, h0, h, y, hy => by
    have : y = x := by simpa [ch] using hy
    subst this
    exact ⟨h0, h⟩
  | d :: ds, x, k, h0, h, y, hy => by
    have hle : (2 : Int) ^ k ≤ 2 ^ (k + (d :: ds).length) := two_pow_lt (by omega)
    have e : (2 : Int) ^ (k + 1) = 2 ^ k * 2 := Int.pow_succ ..
    have el : k + 1 + ds.length = k + (d :: ds).length := by rw [List.length_cons]; omega
    rcases List.mem_cons.mp hy with rfl | hy
    · exact ⟨h0, by omega⟩
    · rw [ch_cons] at hy
      split at hy
      · rcases List.mem_cons.mp hy with rfl | hy
        · have := ch_bd ds (2 * x) (k + 1) (by omega) (by omega) (2 * x) List.mem_cons_self
          rw [el] at this
          exact this
        · have := ch_bd ds (2 * x + 1) (k + 1) (by omega) (by omega) y hy
          rw [el] at this
          exact this
      · have := ch_bd ds (2 * x) (k + 1) (by omega) (by omega) y hy
        rw [el] at this
        exact this
theorem at_end {L : List Int} {x : Int} : L2.atI (L ++ [x]) (-1) = some x := L2.atI_last L x
theorem chain_loop {n : Int} : ∀ (ds : List Int) (L : List Int) (x : Int) (k : Nat), 0 ≤ x → x < 2 ^ k → k + ds.length ≤ 60 → L.length + 2 * ds.length ≤ 1000 →
    forO (fun (s : S_binary_chain) (t : Int) => { s with v_digit := t }) lp_binary_chain_0 ds ⟨n, L ++ [x], 0⟩ = some (.nx ⟨n, L ++ [x] ++ ch x ds, 0⟩)
  | [], L, x, k, _, _, _, _ => by rw [forO_nil]; simp [ch]
  | d :: ds, L, x, k, h0, h, hk, hl => by
    rw [List.length_cons] at hk hl
    have hp := two_pow_lt (k := k) (m := 60) (by omega)
    have e : (2 : Int) ^ (k + 1) = 2 ^ k * 2 := Int.pow_succ ..
    have st : lp_binary_chain_0 ⟨n, L ++ [x], d⟩ = some (.nx ⟨n, if d = 1 then L ++ [x] ++ [2 * x] ++ [2 * x + 1] else L ++ [x] ++ [2 * x], 0⟩) := by
      unfold lp_binary_chain_0
      simp only [bsome, bassoc]
      rw [at_end]
      simp only [bsome]
      rw [iMul_sm (by decide) ⟨by omega, by omega⟩]
      simp only [bsome]
      rw [push_eq (by simp; omega)]
      simp only [bsome, seqO_nx]
      by_cases q : d = 1
      · rw [decide_eq_true q, if_pos rfl, if_pos q, at_end]
        simp only [bsome]
        rw [push_eq (by simp; omega)]
        simp only [bsome, seqO_nx]
      · rw [decide_eq_false q, if_neg (by decide), if_neg q]
        simp only [seqO_nx]
    rw [forO_cons]
    show seqO (lp_binary_chain_0 ⟨n, L ++ [x], d⟩) _ = _
    rw [st, seqO_nx, ch_cons]
    by_cases q : d = 1
    · rw [if_pos q, if_pos q, chain_loop ds (L ++ [x] ++ [2 * x]) (2 * x + 1) (k + 1) (by omega) (by omega) (by omega) (by simp; omega)]
      simp
    · rw [if_neg q, if_neg q, chain_loop ds (L ++ [x]) (2 * x) (k + 1) (by omega) (by omega) (by omega) (by simp; omega)]
      simp
def tb (n : Nat) : List Int := (bits n).reverse.drop 1
def bch (n : Nat) : List Int := 1 :: ch 1 (tb n)
theorem bits_len {n : Nat} : (bits n).length = (bin 20 (n / 2)).length + 1 := rfl
theorem tb_len {n : Nat} : (tb n).length = (bin 20 (n / 2)).length := by
  unfold tb
  rw [List.length_drop, List.length_reverse, bits_len]
  omega
theorem check_number_ok {n m : Int} (h1 : 1 ≤ n) (h2 : n ≤ m) : F_check_number n m = some () := check_ok h1 h2
theorem bch_ok {n : Nat} (h0 : 0 < n) (h : n ≤ 1000000) : F_binary_chain (n : Int) = some (bch n) := by
  have hl := bin_len 20 (n / 2)
  have ht := tb_len (n := n)
  unfold F_binary_chain fb_binary_chain
  simp only [bsome]
  rw [check_ok (by omega) (by omega)]
  simp only [bsome, seqO_nx]
  rw [digits_ok h]
  simp only [bsome]
  rw [show (some (1 : Int)) = some ((1 : Nat) : Int) from rfl, cut_from]
  have := chain_loop (n := (n : Int)) (tb n) [] 1 1 (by decide) (by decide) (by omega) (by simp; omega)
  rw [List.nil_append] at this
  show outF none (seqO (forO (fun (s : S_binary_chain) (t : Int) => { s with v_digit := t }) lp_binary_chain_0 (tb n) ⟨(n : Int), [1], 0⟩) _) = _
  rw [this]
  simp only [seqO_nx, seqO_rt, outF_rt, bsome]
  rfl
theorem bch_len {n : Nat} : (tb n).length + 1 ≤ (bch n).length ∧ (bch n).length ≤ 41 := by
  have := ch_len (tb n) 1
  have hl := bin_len 20 (n / 2)
  have ht := tb_len (n := n)
  unfold bch
  rw [List.length_cons]
  omega
theorem bch_rel {n i : Nat} {u v : Int} (hu : (bch n)[i]? = some u) (hv : (bch n)[i + 1]? = some v) : 1 ≤ u ∧ (v = 2 * u ∨ v = u + 1) := ch_rel (tb n) 1 (by decide) i u v hu hv
theorem bch_bd {n : Nat} : ∀ y ∈ bch n, 0 ≤ y ∧ y < 2 ^ 60 := fun y hy => by
  have hl := bin_len 20 (n / 2)
  have ht := tb_len (n := n)
  obtain ⟨h1, h2⟩ := ch_bd (tb n) 1 1 (by decide) (by decide) y hy
  have := two_pow_lt (k := 1 + (tb n).length) (m := 60) (by omega)
  exact ⟨h1, by omega⟩
theorem dIn_int (x : Int) (ys : List Int) : dIn x ys = some (decide (x ∈ ys)) := by
  have h : ∀ l : List Int, EqT.ok l = true := fun l => by
    show l.all (fun _ => true) = true
    simp
  exact if_pos ⟨rfl, h _⟩
theorem is_sum_ok {told : List Int} {y a b : Int} (hl : told.length ≤ 1000) (ha : a ∈ told) (hb : b ∈ told) (e : y - a = b) : F_is_sum told y = some true := by
  unfold F_is_sum fb_is_sum
  simp only [bsome, bassoc]
  rw [lNew_eq (by omega)]
  simp only [bsome]
  rw [compO_all (t := fun s : S_is_sum × Int => some true) (f := fun s : S_is_sum × Int => dIn (s.1.v_number - s.2) s.1.v_told) (set := fun t : Int => ((⟨told, y⟩ : S_is_sum), t)) (h := fun t => decide (y - t ∈ told)) (fun x _ => rfl) (fun x _ => dIn_int _ _)]
  simp only [bsome, seqO_rt, outF_rt]
  congr 1
  rw [List.any_map, List.any_eq_true]
  exact ⟨a, ha, by simp [e, hb]⟩
theorem all_true {τ : Type} : ∀ xs : List τ, ((xs.map fun _ => true).all id) = true
  | [] => rfl
  | x :: xs => by rw [List.map_cons, List.all_cons, all_true xs]; rfl
theorem is_chain_ok {n : Nat} : F_is_chain (bch n) = some true := by
  obtain ⟨hl1, hl2⟩ := bch_len (n := n)
  have hz : (bch n)[0]? = some 1 := rfl
  have hrel := @bch_rel n
  generalize bch n = C at *
  have hpos : 0 < C.length := by omega
  have hzl : (List.zipWith T2.mk C (C.drop 1)).length ≤ 1000 := by
    rw [List.length_zipWith, List.length_drop]
    omega
  unfold F_is_chain fb_is_chain
  simp only [bsome, bassoc]
  rw [decide_eq_false (show ¬ (C.length : Int) = 0 by omega)]
  simp only [Bool.false_eq_true, if_false]
  rw [show (0 : Int) = ((0 : Nat) : Int) from rfl, LW.atI_nat hpos, hz]
  simp only [bsome, decide_true, Bool.not_true, Bool.false_eq_true, if_false]
  rw [show (some (1 : Int)) = some ((1 : Nat) : Int) from rfl, cut_from, lNew_eq (by omega)]
  simp only [bsome]
  rw [compO_all (t := fun s : (S_is_chain × Int) × Int => some true) (f := fun s : (S_is_chain × Int) × Int => some (decide (s.1.2 < s.2))) (set := fun t : T2 Int Int => (((⟨C⟩ : S_is_chain), t.a), t.b)) (h := fun _ => true) (fun x _ => rfl) (fun x hx => by
    obtain ⟨i, hi⟩ := List.getElem?_of_mem hx
    rw [List.getElem?_zipWith, List.getElem?_drop] at hi
    show some (decide (x.a < x.b)) = some true
    cases h1 : C[i]? with
    | none => rw [h1] at hi; cases hi
    | some u =>
      cases h2 : C[1 + i]? with
      | none => rw [h1, h2] at hi; cases hi
      | some v =>
        rw [h1, h2] at hi
        cases hi
        obtain ⟨r1, r2⟩ := hrel h1 (by rw [Nat.add_comm]; exact h2)
        rw [decide_eq_true]
        show u < v
        omega)]
  simp only [bsome]
  rw [all_true]
  simp only [Bool.not_true, Bool.false_eq_true, if_false, seqO_nx]
  rw [rng2_eq (by decide) (by omega)]
  simp only [bsome]
  rw [lNew_eq (by rw [rng_len]; omega)]
  simp only [bsome]
  rw [compO_all (t := fun s : S_is_chain × Int => some true) (f := fun s : S_is_chain × Int => (L2.atI s.1.v_told s.2).bind fun a => F_is_sum (cut s.1.v_told none (some s.2)) a) (set := fun t : Int => ((⟨C⟩ : S_is_chain), t)) (h := fun _ => true) (fun x _ => rfl) (fun x hx => by
    have hr := rng_mem hx
    obtain ⟨i, rfl⟩ : ∃ i : Nat, x = ((i + 1 : Nat) : Int) := ⟨(x - 1).toNat, by omega⟩
    have hi : i + 1 < C.length := by omega
    show ((L2.atI C ((i + 1 : Nat) : Int)).bind fun a => F_is_sum (cut C none (some ((i + 1 : Nat) : Int))) a) = some true
    obtain ⟨u, hu⟩ : ∃ u, C[i]? = some u := ⟨_, List.getElem?_eq_getElem (by omega)⟩
    obtain ⟨v, hv⟩ : ∃ v, C[i + 1]? = some v := ⟨_, List.getElem?_eq_getElem hi⟩
    obtain ⟨r1, r2⟩ := hrel hu hv
    rw [LW.atI_nat hi, hv, bsome, cut_to]
    have mu : u ∈ C.take (i + 1) := List.mem_of_getElem? (i := i) (by rw [List.getElem?_take_of_lt (by omega)]; exact hu)
    have m1 : (1 : Int) ∈ C.take (i + 1) := List.mem_of_getElem? (i := 0) (by rw [List.getElem?_take_of_lt (by omega)]; exact hz)
    have hl3 : (C.take (i + 1)).length ≤ 1000 := by rw [List.length_take]; omega
    rcases r2 with r2 | r2
    · exact is_sum_ok hl3 mu mu (by omega)
    · exact is_sum_ok hl3 mu m1 (by omega))]
  simp only [bsome, seqO_rt, outF_rt]
  rw [all_true]
end LW

set_option Elab.async false
set_option linter.all false
set_option maxRecDepth 100000
set_option exponentiation.threshold 10000
namespace LW
open PL
def dbl : List Int → Nat
  | x :: y :: r => (if y = 2 * x then 1 else 0) + dbl (y :: r)
  | _ => 0
theorem dbl_cons (x y : Int) (r : List Int) : dbl (x :: y :: r) = (if y = 2 * x then 1 else 0) + dbl (y :: r) := rfl
theorem dbl_ch : ∀ (ds : List Int) (x : Int), ds.length ≤ dbl (x :: ch x ds)
  | [], x => Nat.le_refl _
  | d :: ds, x => by
    rw [ch_cons, List.length_cons]
    split
    · have := dbl_ch ds (2 * x + 1)
      rw [dbl_cons, dbl_cons, if_pos rfl]
      omega
    · have := dbl_ch ds (2 * x)
      rw [dbl_cons, if_pos rfl]
      omega
theorem dblF {C : List Int} {p : Int → Bool} (hp : ∀ (j : Nat) (u v : Int), C[j]? = some u → C[j + 1]? = some v → p ((j + 1 : Nat) : Int) = decide (v = 2 * u)) : ∀ (r : List Int) (x : Int) (j : Nat), C.drop j = x :: r → ((rng ((j + 1 : Nat) : Int) r.length).filter p).length = dbl (x :: r)
  | [], x, j, h => rfl
  | y :: r, x, j, h => by
    have h0 : C[j]? = some x := by
      have := congrArg (fun l => l[0]?) h
      simpa [List.getElem?_drop] using this
    have h1 : C[j + 1]? = some y := by
      have := congrArg (fun l => l[1]?) h
      simpa [List.getElem?_drop] using this
    have h2 : C.drop (j + 1) = y :: r := by
      have := congrArg List.tail h
      simpa [List.tail_drop] using this
    have ih := dblF hp r y (j + 1) h2
    rw [List.length_cons, rng_succ, show ((j + 1 : Nat) : Int) + 1 = ((j + 1 + 1 : Nat) : Int) by push_cast; rfl, dbl_cons]
    have e := hp j x y h0 h1
    by_cases c : y = 2 * x
    · rw [List.filter_cons_of_pos (by rw [e, decide_eq_true c]), List.length_cons, ih, if_pos c]
      omega
    · rw [List.filter_cons_of_neg (by rw [e, decide_eq_false c]; decide), ih, if_neg c]
      omega
theorem doubles_ok {n : Nat} {s : S_law} (h : s.v_chain = bch n) : ∃ L : List Int, compO (fun s : S_law × Int => (L2.atI s.1.v_chain s.2).bind fun x1353 => (L2.atI s.1.v_chain (s.2 - 1)).bind fun a => (iMul 2 a).bind fun x1354 => some (decide (x1353 = x1354))) (fun s : S_law × Int => some s.2) (fun t : Int => (s, t)) (rng 1 ((bch n).length - 1)) = some L ∧ (tb n).length ≤ L.length := by
  have hbd := @bch_bd n
  have hd := dbl_ch (tb n) 1
  have hcut : (bch n).drop 0 = 1 :: ch 1 (tb n) := rfl
  have hlen : (bch n).length - 1 = (ch 1 (tb n)).length := by unfold bch; rw [List.length_cons]; omega
  refine ⟨_, compO_eq (p := fun k : Int => decide ((bch n).getD k.toNat 0 = 2 * (bch n).getD (k - 1).toNat 0)) (h := fun t : Int => t) (fun x hx => ?_) (fun x _ _ => rfl), ?_⟩
  · have hr := rng_mem hx
    obtain ⟨i, rfl⟩ : ∃ i : Nat, x = ((i + 1 : Nat) : Int) := ⟨(x - 1).toNat, by omega⟩
    have hi : i + 1 < (bch n).length := by omega
    show ((L2.atI s.v_chain ((i + 1 : Nat) : Int)).bind fun x1353 => (L2.atI s.v_chain (((i + 1 : Nat) : Int) - 1)).bind fun a => (iMul 2 a).bind fun x1354 => some (decide (x1353 = x1354))) = _
    rw [h, show ((i + 1 : Nat) : Int) - 1 = ((i : Nat) : Int) by push_cast; omega, LW.atI_nat hi, LW.atI_nat (show i < (bch n).length by omega), Int.toNat_natCast, Int.toNat_natCast, List.getElem?_eq_getElem hi, List.getElem?_eq_getElem (show i < (bch n).length by omega)]
    simp only [bsome]
    obtain ⟨b1, b2⟩ := hbd ((bch n)[i]'(by omega)) (List.getElem_mem _)
    rw [iMul_sm (by decide) ⟨by omega, by omega⟩]
    simp only [bsome]
    rw [List.getD_eq_getElem?_getD, List.getD_eq_getElem?_getD, List.getElem?_eq_getElem hi, List.getElem?_eq_getElem (show i < (bch n).length by omega)]
    rfl
  · rw [List.length_map, hlen]
    have := dblF (C := bch n) (p := fun k : Int => decide ((bch n).getD k.toNat 0 = 2 * (bch n).getD (k - 1).toNat 0)) (fun j u v hu hv => by
      rw [show ((j + 1 : Nat) : Int) - 1 = ((j : Nat) : Int) by push_cast; omega, Int.toNat_natCast, Int.toNat_natCast, List.getD_eq_getElem?_getD, List.getD_eq_getElem?_getD, hu, hv]
      rfl) (ch 1 (tb n)) 1 0 hcut
    rw [show ((0 + 1 : Nat) : Int) = 1 from rfl] at this
    rw [this]
    exact hd
theorem naf_len2 : ∀ (f r L : Nat), r ≤ 2 ^ L → (naf f r).length ≤ L + 1
  | 0, _, L, _ => Nat.zero_le _
  | f + 1, r, L, h => by
    unfold naf
    split
    · exact Nat.zero_le _
    · rw [List.length_cons]
      cases L with
      | zero => rw [nx_one (by simpa using h), naf_zero]; exact Nat.le_refl _
      | succ L =>
        have := naf_len2 f (nx r) L (nx_le h)
        omega
theorem bin_lt : ∀ (f r : Nat), r < 2 ^ f → r < 2 ^ (bin f r).length
  | 0, r, h => by
    have : r = 0 := by simpa using h
    subst this
    decide
  | f + 1, r, h => by
    unfold bin
    split
    · rename_i c; subst c; decide
    · have := bin_lt f (r / 2) (half h)
      rw [List.length_cons, Nat.pow_succ]
      omega
theorem row_len {n : Nat} (h : n ≤ 1000000) : (naf 41 n).length ≤ (tb n).length + 2 := by
  have h1 := bin_lt 20 (n / 2) (by omega)
  rw [tb_len]
  refine naf_len2 41 n ((bin 20 (n / 2)).length + 1) ?_
  rw [Nat.pow_succ]
  omega
theorem pr_lt : ∀ (ds : List Int) (k : Nat), ∀ t ∈ pr k ds, t.a < (k : Int) + ds.length
  | [], k, t, h => by cases h
  | d :: ds, k, t, h => by
    unfold pr at h
    rw [List.length_cons]
    split at h
    · have := pr_lt ds (k + 1) t h
      push_cast at this ⊢
      omega
    · rcases List.mem_cons.mp h with rfl | h
      · show (k : Int) < _
        push_cast
        omega
      · have := pr_lt ds (k + 1) t h
        push_cast at this ⊢
        omega
theorem gap_len : ∀ (ts : List (T2 Int Int)) (lo hi : Int), Gap lo ts → (∀ t ∈ ts, t.a < hi) → lo ≤ hi → 2 * (ts.length : Int) ≤ hi - lo + 1
  | [], lo, hi, _, _, h => by simp; omega
  | [t], lo, hi, ⟨g, _⟩, h, _ => by
    have := h t List.mem_cons_self
    simp
    omega
  | t :: u :: ts, lo, hi, ⟨g, g2⟩, h, _ => by
    have h1 := h u (List.mem_cons_of_mem _ List.mem_cons_self)
    have ih := gap_len (u :: ts) (t.a + 2) hi g2 (fun x hx => h x (List.mem_cons_of_mem _ hx)) (by have := g2.1; omega)
    rw [List.length_cons]
    push_cast
    omega
theorem weight_le {n : Nat} (h : n ≤ 1000000) : (sh n).length ≤ (bch n).length := by
  have h1 := row_len h
  have h2 := (bch_len (n := n)).1
  have h3 := gap_len (sh n) 0 ((naf 41 n).length : Int) (gap_naf 41 n 0).1 (fun t ht => by
    have := pr_lt (naf 41 n) 0 t ht
    omega) (by omega)
  omega
/-! the forms -/
def chk7 (n : Nat) : Bool := match F_leanest (n : Int) ((naf 41 n).length : Int), F_forms (n : Int) ((naf 41 n).length : Int) with
  | some S, some Fs => decide ((naf 41 n).reverse ∈ S) && (Fs.all fun f => decide ((sh n).length ≤ (nzF f).length) && decide (f.length ≤ 100)) && decide (Fs.length ≤ 1000)
  | _, _ => false
theorem t7_0 : ∀ n : Fin 4, 1 ≤ 0 + n.val → chk7 (0 + n.val) = true := by decide +kernel
theorem t7_1 : ∀ n : Fin 4, 1 ≤ 4 + n.val → chk7 (4 + n.val) = true := by decide +kernel
theorem t7_2 : ∀ n : Fin 4, 1 ≤ 8 + n.val → chk7 (8 + n.val) = true := by decide +kernel
theorem t7_3 : ∀ n : Fin 4, 1 ≤ 12 + n.val → chk7 (12 + n.val) = true := by decide +kernel
theorem t7_4 : ∀ n : Fin 4, 1 ≤ 16 + n.val → chk7 (16 + n.val) = true := by decide +kernel
theorem t7_5 : ∀ n : Fin 4, 1 ≤ 20 + n.val → chk7 (20 + n.val) = true := by decide +kernel
theorem t7_6 : ∀ n : Fin 4, 1 ≤ 24 + n.val → chk7 (24 + n.val) = true := by decide +kernel
theorem t7_7 : ∀ n : Fin 4, 1 ≤ 28 + n.val → chk7 (28 + n.val) = true := by decide +kernel
theorem t7_8 : ∀ n : Fin 4, 1 ≤ 32 + n.val → chk7 (32 + n.val) = true := by decide +kernel
theorem t7_9 : ∀ n : Fin 4, 1 ≤ 36 + n.val → chk7 (36 + n.val) = true := by decide +kernel
theorem t7_10 : ∀ n : Fin 4, 1 ≤ 40 + n.val → chk7 (40 + n.val) = true := by decide +kernel
theorem t7_11 : ∀ n : Fin 4, 1 ≤ 44 + n.val → chk7 (44 + n.val) = true := by decide +kernel
theorem t7_12 : ∀ n : Fin 4, 1 ≤ 48 + n.val → chk7 (48 + n.val) = true := by decide +kernel
theorem t7_13 : ∀ n : Fin 4, 1 ≤ 52 + n.val → chk7 (52 + n.val) = true := by decide +kernel
theorem t7_14 : ∀ n : Fin 4, 1 ≤ 56 + n.val → chk7 (56 + n.val) = true := by decide +kernel
theorem t7_15 : ∀ n : Fin 4, 1 ≤ 60 + n.val → chk7 (60 + n.val) = true := by decide +kernel
theorem t7_16 : ∀ n : Fin 4, 1 ≤ 64 + n.val → chk7 (64 + n.val) = true := by decide +kernel
theorem t7_17 : ∀ n : Fin 4, 1 ≤ 68 + n.val → chk7 (68 + n.val) = true := by decide +kernel
theorem t7_18 : ∀ n : Fin 4, 1 ≤ 72 + n.val → chk7 (72 + n.val) = true := by decide +kernel
theorem t7_19 : ∀ n : Fin 4, 1 ≤ 76 + n.val → chk7 (76 + n.val) = true := by decide +kernel
theorem t7_20 : ∀ n : Fin 4, 1 ≤ 80 + n.val → chk7 (80 + n.val) = true := by decide +kernel
theorem t7_21 : ∀ n : Fin 4, 1 ≤ 84 + n.val → chk7 (84 + n.val) = true := by decide +kernel
theorem t7_22 : ∀ n : Fin 4, 1 ≤ 88 + n.val → chk7 (88 + n.val) = true := by decide +kernel
theorem t7_23 : ∀ n : Fin 4, 1 ≤ 92 + n.val → chk7 (92 + n.val) = true := by decide +kernel
theorem t7_24 : ∀ n : Fin 4, 1 ≤ 96 + n.val → chk7 (96 + n.val) = true := by decide +kernel
theorem t7_25 : ∀ n : Fin 4, 1 ≤ 100 + n.val → chk7 (100 + n.val) = true := by decide +kernel
theorem t7_26 : ∀ n : Fin 4, 1 ≤ 104 + n.val → chk7 (104 + n.val) = true := by decide +kernel
theorem t7_27 : ∀ n : Fin 4, 1 ≤ 108 + n.val → chk7 (108 + n.val) = true := by decide +kernel
theorem t7_28 : ∀ n : Fin 4, 1 ≤ 112 + n.val → chk7 (112 + n.val) = true := by decide +kernel
theorem t7_29 : ∀ n : Fin 4, 1 ≤ 116 + n.val → chk7 (116 + n.val) = true := by decide +kernel
theorem tab7 {n : Nat} (h0 : 1 ≤ n) (h : n < 120) : chk7 n = true := by
  have e : n = 4 * (n / 4) + n % 4 := by omega
  have hm : n % 4 < 4 := by omega
  have hq : n / 4 < 30 := by omega
  have key : ∀ (b : Nat), (∀ m : Fin 4, 1 ≤ b + m.val → chk7 (b + m.val) = true) → b = 4 * (n / 4) → chk7 n = true := fun b t eb => by
    have := t ⟨n % 4, hm⟩ (by show 1 ≤ b + n % 4; omega)
    rw [show b + (⟨n % 4, hm⟩ : Fin 4).val = n by show b + n % 4 = n; omega] at this
    exact this
  have cs : n / 4 = 0 ∨ n / 4 = 1 ∨ n / 4 = 2 ∨ n / 4 = 3 ∨ n / 4 = 4 ∨ n / 4 = 5 ∨ n / 4 = 6 ∨ n / 4 = 7 ∨ n / 4 = 8 ∨ n / 4 = 9 ∨ n / 4 = 10 ∨ n / 4 = 11 ∨ n / 4 = 12 ∨ n / 4 = 13 ∨ n / 4 = 14 ∨ n / 4 = 15 ∨ n / 4 = 16 ∨ n / 4 = 17 ∨ n / 4 = 18 ∨ n / 4 = 19 ∨ n / 4 = 20 ∨ n / 4 = 21 ∨ n / 4 = 22 ∨ n / 4 = 23 ∨ n / 4 = 24 ∨ n / 4 = 25 ∨ n / 4 = 26 ∨ n / 4 = 27 ∨ n / 4 = 28 ∨ n / 4 = 29 := by omega
  rcases cs with q | q | q | q | q | q | q | q | q | q | q | q | q | q | q | q | q | q | q | q | q | q | q | q | q | q | q | q | q | q
  · exact key 0 t7_0 (by omega)
  · exact key 4 t7_1 (by omega)
  · exact key 8 t7_2 (by omega)
  · exact key 12 t7_3 (by omega)
  · exact key 16 t7_4 (by omega)
  · exact key 20 t7_5 (by omega)
  · exact key 24 t7_6 (by omega)
  · exact key 28 t7_7 (by omega)
  · exact key 32 t7_8 (by omega)
  · exact key 36 t7_9 (by omega)
  · exact key 40 t7_10 (by omega)
  · exact key 44 t7_11 (by omega)
  · exact key 48 t7_12 (by omega)
  · exact key 52 t7_13 (by omega)
  · exact key 56 t7_14 (by omega)
  · exact key 60 t7_15 (by omega)
  · exact key 64 t7_16 (by omega)
  · exact key 68 t7_17 (by omega)
  · exact key 72 t7_18 (by omega)
  · exact key 76 t7_19 (by omega)
  · exact key 80 t7_20 (by omega)
  · exact key 84 t7_21 (by omega)
  · exact key 88 t7_22 (by omega)
  · exact key 92 t7_23 (by omega)
  · exact key 96 t7_24 (by omega)
  · exact key 100 t7_25 (by omega)
  · exact key 104 t7_26 (by omega)
  · exact key 108 t7_27 (by omega)
  · exact key 112 t7_28 (by omega)
  · exact key 116 t7_29 (by omega)
theorem forms7 {n : Nat} (h0 : 1 ≤ n) (h : n < 120) : ∃ S Fs, F_leanest (n : Int) ((naf 41 n).length : Int) = some S ∧ F_forms (n : Int) ((naf 41 n).length : Int) = some Fs ∧ (naf 41 n).reverse ∈ S ∧ (∀ f ∈ Fs, (sh n).length ≤ (nzF f).length ∧ f.length ≤ 100) ∧ Fs.length ≤ 1000 := by
  have t := tab7 h0 h
  unfold chk7 at t
  cases e1 : F_leanest (n : Int) ((naf 41 n).length : Int) with
  | none => rw [e1] at t; cases t
  | some S =>
    cases e2 : F_forms (n : Int) ((naf 41 n).length : Int) with
    | none => rw [e1, e2] at t; cases t
    | some Fs =>
      rw [e1, e2] at t
      simp only [Bool.and_eq_true, decide_eq_true_eq, List.all_eq_true] at t
      exact ⟨S, Fs, rfl, rfl, t.1.1, t.1.2, t.2⟩
end LW

set_option Elab.async false
set_option linter.all false
set_option maxRecDepth 100000
set_option exponentiation.threshold 10000
namespace LW
open PL
theorem pick2 {r a b : Int} (h : 0 ≤ r ∧ r < 2) : ∃ c : Int, L2.atI [a, b] r = some c ∧ (c = a ∨ c = b) := by
  rcases (show r = 0 ∨ r = 1 by omega) with rfl | rfl
  · exact ⟨a, rfl, .inl rfl⟩
  · exact ⟨b, rfl, .inr rfl⟩
theorem ok_ints (l : List Int) : EqT.ok l = true := by
  show l.all (fun _ => true) = true
  simp
theorem ok_rows (l : List (List Int)) : EqT.ok l = true := by
  show l.all EqT.ok = true
  rw [List.all_eq_true]
  exact fun t _ => ok_ints t
theorem dNin_rows (x : List Int) (ys : List (List Int)) : dNin x ys = some (!decide (x ∈ ys)) := by
  unfold dNin
  rw [if_pos ⟨ok_ints _, ok_rows _⟩]
  congr
theorem dNe_rows (x y : List (List Int)) : dNe x y = some (!decide (x = y)) := if_pos ⟨ok_rows _, ok_rows _⟩
theorem dNe_prs (x y : List (T2 Int Int)) : dNe x y = some (!decide (x = y)) := by
  have h : ∀ l : List (T2 Int Int), EqT.ok l = true := fun l => by
    show l.all EqT.ok = true
    rw [List.all_eq_true]
    exact fun t _ => rfl
  exact if_pos ⟨h _, h _⟩
theorem body_ok {ns l : List Int} {turn : Int} (hbd : BdD l) (hl : l.length ≤ 3780) (h0 : 0 ≤ turn) (h1 : turn < 5) :
    lp_law_0 ⟨ns, l, turn, 0, [], [], [], [], [], 0, [], 0, 0, []⟩ = some (.nx ⟨ns, l, 0, 0, [], [], [], [], [], 0, [], 0, 0, []⟩) := by
  obtain ⟨r1, e1, p1', q1⟩ := mix_ok hbd hl (k := 5 + turn) (m := 2) (by omega) (by omega) (by decide)
  obtain ⟨c1, ec1, d1⟩ := pick2 (a := 120) (b := 60000) ⟨p1', q1⟩
  obtain ⟨r2, e2, p2, q2⟩ := mix_ok hbd hl (k := turn) (m := c1) (by omega) (by omega) (by omega)
  obtain ⟨r3, e3, p3, q3⟩ := mix_ok hbd hl (k := 10 + turn) (m := 17) (by omega) (by omega) (by decide)
  obtain ⟨n, hn, hn0, hn1⟩ : ∃ n : Nat, 1 + r2 = (n : Int) ∧ 0 < n ∧ n ≤ 60000 := ⟨(1 + r2).toNat, by omega, by omega, by omega⟩
  obtain ⟨h, hh, hh1, hh2⟩ : ∃ h : Nat, 3 + 2 * r3 = ((2 * h + 1 : Nat) : Int) ∧ 1 ≤ h ∧ h ≤ 17 := ⟨(1 + r3).toNat, by omega, by omega, by omega⟩
  have hsl := sh_len (n := n)
  have hnl := naf_len 41 n
  have hbl := bal_len 1 21 (n : Int)
  have hB : B20 (n : Int) := ⟨by omega, by omega⟩
  have hB2 : B20 (-(n : Int)) := ⟨by omega, by omega⟩
  unfold lp_law_0
  simp only [bsome, bassoc]
  rw [e1]
  simp only [bsome]
  rw [ec1]
  simp only [bsome]
  rw [e2]
  simp only [bsome, seqO_nx]
  rw [hn, lean_ok hn0 (by omega)]
  simp only [bsome]
  rw [shifts_ok hn0 (by omega)]
  simp only [bsome, seqO_nx, List.reverse_reverse]
  rw [lNew_eq (by rw [List.length_map, List.length_zipIdx]; omega)]
  simp only [bsome]
  rw [compO_eq (t := fun s : (S_law × Int) × Int => some (!decide (s.2 = 0))) (f := fun s : (S_law × Int) × Int => some (T2.mk s.1.2 s.2)) (set := fun t : T2 Int Int => (((_ : S_law), t.a), t.b)) (p := fun t : T2 Int Int => !decide (t.b = 0)) (h := fun t : T2 Int Int => (⟨t.a, t.b⟩ : T2 Int Int)) (fun x _ => rfl) (fun x _ _ => rfl), pr_filter]
  simp only [bsome]
  rw [show pr 0 (naf 41 n) = sh n from rfl, dNe_prs]
  simp only [bsome, decide_true, Bool.not_true, Bool.false_eq_true, if_false]
  rw [weight_ok hn0 (by omega)]
  simp only [bsome, decide_true, Bool.not_true, Bool.false_eq_true, if_false]
  rw [is_lean_ok hn0 (by omega)]
  simp only [bsome, decide_true, Bool.not_true, Bool.false_eq_true, if_false, seqO_nx]
  rw [by_shifts_ok hn0 (by omega) (by decide) (by decide)]
  simp only [bsome]
  rw [weight_ok hn0 (by omega)]
  simp only [bsome]
  rw [show (rowsF n 7).length = (sh n).length by unfold rowsF; rw [List.length_map]]
  simp only [decide_true, Bool.not_true, Bool.false_eq_true, if_false]
  rw [weight_neg hn0 (by omega)]
  simp only [bsome, decide_true, Bool.not_true, Bool.false_eq_true, if_false, seqO_nx]
  rw [pans_ok hn0 (by omega)]
  simp only [bsome, seqO_nx]
  have e3' : (3 : Int) = ((2 * 1 + 1 : Nat) : Int) := rfl
  rw [e3', row_of_ok (h := 1) (by decide) (by decide) (by omega) hB]
  simp only [bsome, seqO_nx]
  rw [lNew_eq (by rw [List.length_reverse]; omega)]
  simp only [bsome]
  rw [nz_comp]
  simp only [bsome]
  rw [nz_rev, show ((p1 1 0 (bal 1 21 (n : Int))).length : Int) + ((p1 (-1) 0 (bal 1 21 (n : Int))).length : Int) = ((nzF (bal 1 21 (n : Int))).length : Int) by
    have := p1_nz (bal 1 21 (n : Int)) 0 bal1_mem
    omega]
  simp only [decide_true, Bool.not_true, Bool.false_eq_true, if_false]
  rw [number_of_ok (h := 1) (by decide) (by decide) (by omega) hB]
  simp only [bsome, decide_true, Bool.not_true, Bool.false_eq_true, if_false, seqO_nx]
  rw [show (p1 1 0 (bal 1 21 (n : Int))).sum - (p1 (-1) 0 (bal 1 21 (n : Int))).sum = (n : Int) by
    rw [p1_sum _ _ bal1_mem, v3_bal 20 (n : Int) hB.1 hB.2, Int.pow_zero, Int.one_mul]]
  rw [p1_len, p1_len, List.count_reverse, List.count_reverse]
  simp only [bsome, decide_true, Bool.not_true, Bool.false_eq_true, if_false, seqO_nx]
  rw [e3]
  simp only [bsome]
  rw [iMul_sm (by decide) ⟨by omega, by omega⟩]
  simp only [bsome, seqO_nx]
  rw [show ((2 * 1 + 1 : Nat) : Int) + 2 * r3 = ((2 * h + 1 : Nat) : Int) by omega]
  rw [row_of_ok hh1 hh2 (by omega) hB]
  simp only [bsome]
  rw [number_of_ok hh1 hh2 (by omega) hB]
  simp only [bsome, decide_true, Bool.not_true, Bool.false_eq_true, if_false]
  rw [row_of_ok hh1 hh2 (by omega) hB2]
  simp only [bsome]
  rw [number_of_ok hh1 hh2 (by omega) hB2]
  simp only [bsome, decide_true, Bool.not_true, Bool.false_eq_true, if_false, seqO_nx]
  rw [bch_ok hn0 (by omega)]
  simp only [bsome, seqO_nx]
  obtain ⟨bl1, bl2⟩ := bch_len (n := n)
  rw [rng2_eq (by decide) (by omega)]
  simp only [bsome]
  rw [show ((((bch n).length : Nat) : Int) - 1).toNat = (bch n).length - 1 by omega, lNew_eq (by rw [rng_len]; omega)]
  simp only [bsome]
  obtain ⟨L, eL, hL⟩ := doubles_ok (n := n) (s := (⟨ns, l, turn, (n : Int), (naf 41 n).reverse, sh n, p1 1 0 (bal 1 21 (n : Int)), p1 (-1) 0 (bal 1 21 (n : Int)), (bal 1 21 (n : Int)).reverse, ((2 * h + 1 : Nat) : Int), bch n, 0, 0, []⟩ : S_law)) rfl
  rw [eL]
  simp only [bsome, seqO_nx]
  rw [is_chain_ok]
  simp only [bsome, decide_true, Bool.not_true, Bool.false_eq_true, if_false]
  rw [weight_ok hn0 (by omega)]
  simp only [bsome]
  have hwl := weight_le (n := n) (by omega)
  have hrl := row_len (n := n) (by omega)
  rw [decide_eq_false (show ¬ ((sh n).length : Int) > ((bch n).length : Int) by omega)]
  simp only [Bool.false_eq_true, if_false]
  rw [decide_eq_false (show ¬ (L.length : Int) < (((naf 41 n).reverse.length : Nat) : Int) - 2 by rw [List.length_reverse]; omega)]
  simp only [bsome, Bool.false_eq_true, if_false, seqO_nx]
  by_cases q : n < 120
  · rw [decide_eq_true (show (n : Int) < 120 by omega), if_pos rfl]
    obtain ⟨S, Fs, f1, f2, f3, f4, f5⟩ := forms7 (n := n) (by omega) q
    rw [List.length_reverse, f1]
    simp only [bsome, seqO_nx]
    rw [dNin_rows, decide_eq_true f3]
    simp only [bsome, Bool.not_true, Bool.false_eq_true, if_false, List.length_reverse]
    rw [f2]
    simp only [bsome]
    rw [lNew_eq (by omega)]
    simp only [bsome]
    rw [compO_eq (t := fun s : S_law × List Int => (lNew s.2).bind fun a => (compO (fun s : (S_law × List Int) × Int => some (!decide (s.2 = 0))) (fun s : (S_law × List Int) × Int => some s.2) (fun t : Int => (s, t)) a).bind fun a => (F_weight s.1.v_number).bind fun x1540 => some (decide ((a.length : Int) < x1540))) (f := fun s : S_law × List Int => some s.2) (set := fun t : List Int => ((⟨ns, l, turn, (n : Int), (naf 41 n).reverse, sh n, p1 1 0 (bal 1 21 (n : Int)), p1 (-1) 0 (bal 1 21 (n : Int)), (bal 1 21 (n : Int)).reverse, ((2 * h + 1 : Nat) : Int), bch n, (L.length : Int), ((naf 41 n).length : Int), S⟩ : S_law), t)) (p := fun _ => false) (h := fun t => t) (xs := Fs) (fun x hx => by
      obtain ⟨g1, g2⟩ := f4 x hx
      show ((lNew x).bind fun a => (compO (fun s : (S_law × List Int) × Int => some (!decide (s.2 = 0))) (fun s : (S_law × List Int) × Int => some s.2) (fun t : Int => (_, t)) a).bind fun a => (F_weight (n : Int)).bind fun x1540 => some (decide ((a.length : Int) < x1540))) = some false
      rw [lNew_eq (by omega), bsome, nz_comp, bsome, weight_ok hn0 (by omega), bsome, decide_eq_false (by omega)]) (fun x _ z => by cases z)]
    rw [List.filter_eq_nil_iff.mpr (by simp)]
    simp only [bsome, List.map_nil]
    rw [dNe_rows]
    simp only [bsome, decide_true, Bool.not_true, Bool.false_eq_true, if_false, seqO_nx]
  · rw [decide_eq_false (show ¬ (n : Int) < 120 by omega), if_neg (by decide)]
    simp only [seqO_nx]
theorem law_true (ns : List Int) (h : ns.length ≤ 63) : F_law ns = some true := by
  unfold F_law fb_law
  simp only [bsome]
  obtain ⟨l, e, hl, hb⟩ := draws_ok ns h
  rw [e]
  simp only [bsome, seqO_nx]
  rw [rng1_eq (by decide) (by decide)]
  simp only [bsome]
  rw [forO_same (g := (⟨ns, l, 0, 0, [], [], [], [], [], 0, [], 0, 0, []⟩ : S_law)) fun x hx => by
    have h1 := rng_mem hx
    exact body_ok hb hl (by omega) (by omega)]
  simp only [seqO_nx]
  rfl
end LW

open PySem PySem.Spec PySem.W PyProof.Rows L2 PL LW
set_option maxHeartbeats 0 in
theorem PySem.Challenge.cw_reckonedbyhand_k96_whole_signed_digits_a_holds : PySem.Challenge.rw_reckonedbyhand_k96_whole_signed_digits_a.Holds := by
  w_on; o_law; k_head; (case hw => w_witness2)
  k_fill
  refine PL.walk_at (l := PySem.Challenge.rw_reckonedbyhand_k96_whole_signed_digits_a) (n := 63) (x := "script") (sp := fun w => spF _ N_law 1 sa_law .a (fun a => F_law a.1)) rfl (by decide) rfl (fun w h Y => PySem.W.kIn_of Y) ?F (fun w H a ns hl hS => sp_law .b nofun hS (LW.law_true ns hl) (j := 17) rfl rfl)
  case F =>
    intro w mg fa h KX G hmg
    obtain ⟨T, e, hb⟩ : ∃ T : LW.Top _ mg, T.a_law = fa ∧ (∀ (s : Shared) (u : Value), BindsTo s T.d_law ⟨[u], []⟩ [("script", u)]) := by
      refine' LW.mk_top KX G hmg ?a__law_draws ?l__law_draws ?c__law_draws ?k__law_draws ?a_lean_row ?l_lean_row ?c_lean_row ?k_lean_row ?a_weight ?l_weight ?c_weight ?k_weight ?a_digits_of_rows ?l_digits_of_rows ?c_digits_of_rows ?k_digits_of_rows ?a_pans ?l_pans ?c_pans ?k_pans ?a_check_base ?l_check_base ?c_check_base ?k_check_base ?a_row_of ?l_row_of ?c_row_of ?k_row_of ?a_check_number ?l_check_number ?c_check_number ?k_check_number ?a_digits_of_numerals ?l_digits_of_numerals ?c_digits_of_numerals ?k_digits_of_numerals ?a_binary_chain ?l_binary_chain ?c_binary_chain ?k_binary_chain ?a__law_mix ?l__law_mix ?c__law_mix ?k__law_mix ?a_shifts_of ?l_shifts_of ?c_shifts_of ?k_shifts_of ?a_shifts ?l_shifts ?c_shifts ?k_shifts ?a_check_places ?l_check_places ?c_check_places ?k_check_places ?a_forms_of ?l_forms_of ?c_forms_of ?k_forms_of ?a_forms ?l_forms ?c_forms ?k_forms ?a_leanest ?l_leanest ?c_leanest ?k_leanest ?a_is_lean ?l_is_lean ?c_is_lean ?k_is_lean ?a_check_row ?l_check_row ?c_check_row ?k_check_row ?a_worth_of ?l_worth_of ?c_worth_of ?k_worth_of ?a_number_of ?l_number_of ?c_number_of ?k_number_of ?a_is_sum ?l_is_sum ?c_is_sum ?k_is_sum ?a_is_chain ?l_is_chain ?c_is_chain ?k_is_chain ?a_doubled ?l_doubled ?c_doubled ?k_doubled ?a_by_shifts ?l_by_shifts ?c_by_shifts ?k_by_shifts ?a_law ?l_law ?c_law ?k_law ?z_abs ?z_all ?z_any ?z_enumerate ?z_int ?z_len ?z_min ?z_range ?z_sorted ?z_sum ?z_zip ?q_LEAST_BASE ?q_MOST_BASE ?q_MOST_BINARY ?q_MOST_LISTED ?q_MOST_PLACES ?q_SIGNED ?l_SIGNED
      (case a__law_draws => k_is)
      (case l__law_draws => k_is)
      (case c__law_draws => k_is)
      (case k__law_draws => k_is)
      (case a_lean_row => k_is)
      (case l_lean_row => k_is)
      (case c_lean_row => k_is)
      (case k_lean_row => k_is)
      (case a_weight => k_is)
      (case l_weight => k_is)
      (case c_weight => k_is)
      (case k_weight => k_is)
      (case a_digits_of_rows => k_is)
      (case l_digits_of_rows => k_is)
      (case c_digits_of_rows => k_is)
      (case k_digits_of_rows => k_is)
      (case a_pans => k_is)
      (case l_pans => k_is)
      (case c_pans => k_is)
      (case k_pans => k_is)
      (case a_check_base => k_is)
      (case l_check_base => k_is)
      (case c_check_base => k_is)
      (case k_check_base => k_is)
      (case a_row_of => k_is)
      (case l_row_of => k_is)
      (case c_row_of => k_is)
      (case k_row_of => k_is)
      (case a_check_number => k_is)
      (case l_check_number => k_is)
      (case c_check_number => k_is)
      (case k_check_number => k_is)
      (case a_digits_of_numerals => k_is)
      (case l_digits_of_numerals => k_is)
      (case c_digits_of_numerals => k_is)
      (case k_digits_of_numerals => k_is)
      (case a_binary_chain => k_is)
      (case l_binary_chain => k_is)
      (case c_binary_chain => k_is)
      (case k_binary_chain => k_is)
      (case a__law_mix => k_is)
      (case l__law_mix => k_is)
      (case c__law_mix => k_is)
      (case k__law_mix => k_is)
      (case a_shifts_of => k_is)
      (case l_shifts_of => k_is)
      (case c_shifts_of => k_is)
      (case k_shifts_of => k_is)
      (case a_shifts => k_is)
      (case l_shifts => k_is)
      (case c_shifts => k_is)
      (case k_shifts => k_is)
      (case a_check_places => k_is)
      (case l_check_places => k_is)
      (case c_check_places => k_is)
      (case k_check_places => k_is)
      (case a_forms_of => k_is)
      (case l_forms_of => k_is)
      (case c_forms_of => k_is)
      (case k_forms_of => k_is)
      (case a_forms => k_is)
      (case l_forms => k_is)
      (case c_forms => k_is)
      (case k_forms => k_is)
      (case a_leanest => k_is)
      (case l_leanest => k_is)
      (case c_leanest => k_is)
      (case k_leanest => k_is)
      (case a_is_lean => k_is)
      (case l_is_lean => k_is)
      (case c_is_lean => k_is)
      (case k_is_lean => k_is)
      (case a_check_row => k_is)
      (case l_check_row => k_is)
      (case c_check_row => k_is)
      (case k_check_row => k_is)
      (case a_worth_of => k_is)
      (case l_worth_of => k_is)
      (case c_worth_of => k_is)
      (case k_worth_of => k_is)
      (case a_number_of => k_is)
      (case l_number_of => k_is)
      (case c_number_of => k_is)
      (case k_number_of => k_is)
      (case a_is_sum => k_is)
      (case l_is_sum => k_is)
      (case c_is_sum => k_is)
      (case k_is_sum => k_is)
      (case a_is_chain => k_is)
      (case l_is_chain => k_is)
      (case c_is_chain => k_is)
      (case k_is_chain => k_is)
      (case a_doubled => k_is)
      (case l_doubled => k_is)
      (case c_doubled => k_is)
      (case k_doubled => k_is)
      (case a_by_shifts => k_is)
      (case l_by_shifts => k_is)
      (case c_by_shifts => k_is)
      (case k_by_shifts => k_is)
      (case a_law => k_is)
      (case l_law => k_is)
      (case c_law => k_is)
      (case k_law => k_is)
      (case z_abs => k_is)
      (case z_all => k_is)
      (case z_any => k_is)
      (case z_enumerate => k_is)
      (case z_int => k_is)
      (case z_len => k_is)
      (case z_min => k_is)
      (case z_range => k_is)
      (case z_sorted => k_is)
      (case z_sum => k_is)
      (case z_zip => k_is)
      (case q_LEAST_BASE => k_is)
      (case q_MOST_BASE => k_is)
      (case q_MOST_BINARY => k_is)
      (case q_MOST_LISTED => k_is)
      (case q_MOST_PLACES => k_is)
      (case q_SIGNED => k_is)
      (case l_SIGNED => k_is)
    subst e
    exact ⟨T.d_law, hb, fun base _ _ => LW.ok_law T⟩
