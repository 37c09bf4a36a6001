import PyProof.Rows.All
import Wide.All
import OpenK.AllK
import Wide.FinOn
import HandS.ForMost
import HandS.Wide
import HandS.Star
import HandS.Style
import HandS.SortInts
import HandS.Deep
import HandS.Gcd
import PyProof.ReprRoads
import HandS.Ends
import HandS.Replace
import HandS.Codes
import KE.GoesMore
import HandS.TryOnly
import HandS.TupSets
import PyProof.Rows.StrRev
import HandS.StrMore
import HandS.Flow
import PySem.Challenge.RW_reckonedbyhand_k55_whole_zeros_of_produc
set_option Elab.async false
set_option linter.all false
set_option maxRecDepth 100000
/-! PL1: the pure layer: plain data over the heap, ownership modes, judgements. -/
namespace PL
open PySem PySem.Spec L2

abbrev Ad := Addr → Prop
def un (S T : Ad) : Ad := fun a => S a ∨ T a
def wi (S : Ad) (p : Addr) : Ad := fun a => S a ∨ a = p
def no : Ad := fun _ => False

/-! ### data over the heap; lists, tuples, dicts that are tracked stand outside T -/
def KLs (K : PySem.W.Frag) (a : Addr) (xs : List V) : Prop :=
  ∃ (o : Obj) (its : Array Value) (n : Nat), K.lookup a = some o ∧ o.cls = .type "list" ∧ o.dict = none ∧ o.data = .seq its n ∧ its.size ≤ sizeLine ∧ Vals xs its.toList
def KTp (K : PySem.W.Frag) (a : Addr) (xs : List V) : Prop :=
  ∃ (o : Obj) (its : Array Value) (n : Nat), K.lookup a = some o ∧ o.cls = .type "tuple" ∧ o.data = .seq its n ∧ its.size ≤ sizeLine ∧ Vals xs its.toList
def LsA (K : PySem.W.Frag) (H : Hp) (T : Ad) (a : Addr) (xs : List V) : Prop := (Rd H a (.lst xs) ∧ ¬ T a) ∨ KLs K a xs
def TpA (K : PySem.W.Frag) (H : Hp) (T : Ad) (a : Addr) (xs : List V) : Prop := (Rd H a (.tup xs) ∧ ¬ T a) ∨ KTp K a xs
theorem LsA.sq {K : PySem.W.Frag} {H : Hp} {T : Ad} {a : Addr} {xs : List V} (h : LsA K H T a xs) : SqL K H a xs := h.imp (·.1) id
theorem TpA.sq {K : PySem.W.Frag} {H : Hp} {T : Ad} {a : Addr} {xs : List V} (h : TpA K H T a xs) : SqT K H a xs := h.imp (·.1) id

def keyD : PyData → Option Key
  | .int i => some (.inl i)
  | .str x => some (.inr x)
  | _ => none

mutual
def Rp (K : PySem.W.Frag) (H : Hp) (T : Ad) : PyData → V → Prop
  | .none, v => v = .non
  | .bool b, v => v = .bl b
  | .int i, v => v = .int i
  | .str x, v => v = .str x
  | .list ds, v => ∃ a xs, v = .ref a ∧ LsA K H T a xs ∧ RpA K H T ds xs
  | .tuple ds, v => ∃ a xs, v = .ref a ∧ TpA K H T a xs ∧ RpA K H T ds xs
  | .dict kvs, v => ∃ a es, v = .ref a ∧ (Rd H a (.dK es) ∧ ¬ T a) ∧ RpK K H T kvs es
def RpA (K : PySem.W.Frag) (H : Hp) (T : Ad) : List PyData → List V → Prop
  | [], xs => xs = []
  | d :: ds, xs => ∃ v vs, xs = v :: vs ∧ Rp K H T d v ∧ RpA K H T ds vs
def RpK (K : PySem.W.Frag) (H : Hp) (T : Ad) : List (PyData × PyData) → List (Key × V) → Prop
  | [], es => es = []
  | (k, d) :: ds, es => ∃ i v vs, es = (i, v) :: vs ∧ keyD k = some i ∧ Rp K H T d v ∧ RpK K H T ds vs
end

/-- from (H, T) to (H', T'): what is tracked outside T stands, and outside T' -/
def Mv (T : Ad) (H : Hp) (T' : Ad) (H' : Hp) : Prop := ∀ a o, H a = some o → ¬ T a → H' a = some o ∧ ¬ T' a
theorem Mv.refl {T : Ad} {H : Hp} : Mv T H T H := fun _ _ h n => ⟨h, n⟩
theorem Mv.trans {T T' T'' : Ad} {H H' H'' : Hp} (x : Mv T H T' H') (y : Mv T' H' T'' H'') : Mv T H T'' H'' := fun a o h n =>
  let ⟨h1, n1⟩ := x a o h n
  y a o h1 n1
theorem Mv.same {T : Ad} {H H' : Hp} (s : Same H H') : Mv T H T H' := fun a o h n => ⟨s a o h, n⟩
theorem Mv.less {T T' : Ad} {H : Hp} (s : ∀ a, T' a → T a) : Mv T H T' H := fun a o h n => ⟨h, fun z => n (s a z)⟩
theorem Mv.un {T T' U : Ad} {H H' : Hp} (x : Mv T H T' H') : Mv (un T U) H (PL.un T' U) H' := fun a o h n =>
  let ⟨h1, n1⟩ := x a o h fun z => n (.inl z)
  ⟨h1, fun z => z.elim n1 fun z => n (.inr z)⟩

section
variable {K : PySem.W.Frag} {H H' : Hp} {T T' : Ad} {a : Addr} {xs : List V} {u : HO}
theorem rd_mv (m : Mv T H T' H') (h : Rd H a u ∧ ¬ T a) : Rd H' a u ∧ ¬ T' a := by
  obtain ⟨h | ⟨o, h⟩, n⟩ := h
  · obtain ⟨h1, n1⟩ := m _ _ h n
    exact ⟨.inl h1, n1⟩
  · obtain ⟨h1, n1⟩ := m _ _ h n
    exact ⟨.inr ⟨o, h1⟩, n1⟩
theorem LsA.mv (m : Mv T H T' H') (h : LsA K H T a xs) : LsA K H' T' a xs := h.imp (rd_mv m) id
theorem TpA.mv (m : Mv T H T' H') (h : TpA K H T a xs) : TpA K H' T' a xs := h.imp (rd_mv m) id
mutual
theorem Rp.mv (m : Mv T H T' H') : ∀ (d : PyData) (v : V), Rp K H T d v → Rp K H' T' d v
  | .none, v, h => h
  | .bool _, v, h => h
  | .int _, v, h => h
  | .str _, v, h => h
  | .list ds, v, h => by
    obtain ⟨a, xs, e, h1, h2⟩ := h
    exact ⟨a, xs, e, h1.mv m, RpA.mv m ds xs h2⟩
  | .tuple ds, v, h => by
    obtain ⟨a, xs, e, h1, h2⟩ := h
    exact ⟨a, xs, e, h1.mv m, RpA.mv m ds xs h2⟩
  | .dict kvs, v, h => by
    obtain ⟨a, xs, e, h1, h2⟩ := h
    exact ⟨a, xs, e, rd_mv m h1, RpK.mv m kvs xs h2⟩
theorem RpA.mv (m : Mv T H T' H') : ∀ (ds : List PyData) (xs : List V), RpA K H T ds xs → RpA K H' T' ds xs
  | [], xs, h => h
  | d :: ds, xs, h => by
    obtain ⟨v, vs, e, h1, h2⟩ := h
    exact ⟨v, vs, e, Rp.mv m d v h1, RpA.mv m ds vs h2⟩
theorem RpK.mv (m : Mv T H T' H') : ∀ (ds : List (PyData × PyData)) (xs : List (Key × V)), RpK K H T ds xs → RpK K H' T' ds xs
  | [], xs, h => h
  | (k, d) :: ds, xs, h => by
    obtain ⟨i, v, vs, e, hk, h1, h2⟩ := h
    exact ⟨i, v, vs, e, hk, Rp.mv m d v h1, RpK.mv m ds vs h2⟩
end
theorem RpA.length : ∀ {ds : List PyData} {xs : List V}, RpA K H T ds xs → xs.length = ds.length
  | [], xs, h => by have e : xs = [] := h; rw [e]; rfl
  | d :: ds, xs, h => by
    obtain ⟨v, vs, rfl, h1, h2⟩ := h
    rw [List.length_cons, List.length_cons, RpA.length h2]
theorem RpA.append : ∀ {ds es : List PyData} {xs ys : List V}, RpA K H T ds xs → RpA K H T es ys → RpA K H T (ds ++ es) (xs ++ ys)
  | [], es, xs, ys, h, g => by have e : xs = [] := h; subst e; exact g
  | d :: ds, es, xs, ys, h, g => by
    obtain ⟨v, vs, rfl, h1, h2⟩ := h
    exact ⟨v, vs ++ ys, rfl, h1, RpA.append h2 g⟩
theorem RpA.one {d : PyData} {v : V} (h : Rp K H T d v) : RpA K H T [d] [v] := ⟨v, [], rfl, h, rfl⟩
theorem RpA.get : ∀ {ds : List PyData} {xs : List V} {i : Nat} {d : PyData}, RpA K H T ds xs → ds[i]? = some d → ∃ v, xs[i]? = some v ∧ Rp K H T d v
  | [], xs, i, d, h, e => by simp at e
  | d' :: ds, xs, 0, d, h, e => by
    obtain ⟨v, vs, rfl, h1, h2⟩ := h
    have e : d' = d := Option.some.inj e
    subst e
    exact ⟨v, rfl, h1⟩
  | d' :: ds, xs, i + 1, d, h, e => by
    obtain ⟨v, vs, rfl, h1, h2⟩ := h
    exact RpA.get (i := i) h2 e
theorem RpA.take : ∀ {ds : List PyData} {xs : List V} (n : Nat), RpA K H T ds xs → RpA K H T (ds.take n) (xs.take n)
  | [], xs, n, h => by have e : xs = [] := h; subst e; simp; rfl
  | d :: ds, xs, 0, h => by simp; rfl
  | d :: ds, xs, n + 1, h => by
    obtain ⟨v, vs, rfl, h1, h2⟩ := h
    exact ⟨v, vs.take n, rfl, h1, RpA.take n h2⟩
theorem RpA.drop : ∀ {ds : List PyData} {xs : List V} (n : Nat), RpA K H T ds xs → RpA K H T (ds.drop n) (xs.drop n)
  | [], xs, n, h => by have e : xs = [] := h; subst e; simp; rfl
  | d :: ds, xs, 0, h => by simpa using h
  | d :: ds, xs, n + 1, h => by
    obtain ⟨v, vs, rfl, h1, h2⟩ := h
    simpa using RpA.drop n h2
theorem RpA.rev : ∀ {ds : List PyData} {xs : List V}, RpA K H T ds xs → RpA K H T ds.reverse xs.reverse
  | [], xs, h => by have e : xs = [] := h; subst e; simp; rfl
  | d :: ds, xs, h => by
    obtain ⟨v, vs, rfl, h1, h2⟩ := h
    rw [List.reverse_cons, List.reverse_cons]
    exact (RpA.rev h2).append (.one h1)
theorem RpA.set : ∀ {ds : List PyData} {xs : List V} (i : Nat) {d : PyData} {v : V}, RpA K H T ds xs → Rp K H T d v → RpA K H T (ds.set i d) (xs.set i v)
  | [], xs, i, d, v, h, g => by have e : xs = [] := h; subst e; simp; rfl
  | d' :: ds, xs, 0, d, v, h, g => by
    obtain ⟨v', vs, rfl, h1, h2⟩ := h
    exact ⟨v, vs, rfl, g, h2⟩
  | d' :: ds, xs, i + 1, d, v, h, g => by
    obtain ⟨v', vs, rfl, h1, h2⟩ := h
    exact ⟨v', vs.set i v, rfl, h1, RpA.set i h2 g⟩
mutual
theorem Rp.dp : ∀ (d : PyData) (v : V), Rp K H T d v → (∀ kvs, d ≠ .dict kvs) → PyData.hasDict d = false → Dp K H v d
  | .none, v, h, _, _ => by have e : v = .non := h; rw [e]; exact .non
  | .bool b, v, h, _, _ => by have e : v = .bl b := h; rw [e]; exact .bl b
  | .int i, v, h, _, _ => by have e : v = .int i := h; rw [e]; exact .int i
  | .str i, v, h, _, _ => by have e : v = .str i := h; rw [e]; exact .str i
  | .list ds, v, h, _, n => by
    obtain ⟨a, xs, rfl, h1, h2⟩ := h
    exact .lst h1.sq (RpA.dp ds xs h2 (by simpa [PyData.hasDict] using n))
  | .tuple ds, v, h, _, n => by
    obtain ⟨a, xs, rfl, h1, h2⟩ := h
    exact .tup h1.sq (RpA.dp ds xs h2 (by simpa [PyData.hasDict] using n))
  | .dict kvs, v, h, n, _ => absurd rfl (n kvs)
theorem RpA.dp : ∀ (ds : List PyData) (xs : List V), RpA K H T ds xs → PyData.hasDictAll ds = false → DpAll K H xs ds
  | [], xs, h, _ => by have e : xs = [] := h; subst e; exact .nil
  | d :: ds, xs, h, n => by
    obtain ⟨v, vs, rfl, h1, h2⟩ := h
    have n' : d.hasDict = false ∧ PyData.hasDictAll ds = false := by simpa [PyData.hasDictAll] using n
    refine .cons (Rp.dp d v h1 ?_ n'.1) (RpA.dp ds vs h2 n'.2)
    rintro kvs rfl
    simp [PyData.hasDict] at n'
end
end

/-! ### the kinds of a value: a shared, b borrowed (its top may be owned), f fresh -/
inductive Kd | a | b | f
def Rb (K : PySem.W.Frag) (H : Hp) (T : Ad) (d : PyData) (v : V) : Prop :=
  Rp K H T d v ∨ (∃ ds a xs, d = .list ds ∧ v = .ref a ∧ Rd H a (.lst xs) ∧ RpA K H T ds xs) ∨ ∃ kvs a es, d = .dict kvs ∧ v = .ref a ∧ Rd H a (.dK es) ∧ RpK K H T kvs es
def Fr (K : PySem.W.Frag) (H H' : Hp) (T : Ad) (d : PyData) (v : V) : Prop :=
  ∃ p, v = .ref p ∧ H p = none ∧ ((∃ ds xs, d = .list ds ∧ H' p = some (.lst xs) ∧ RpA K H' (wi T p) ds xs) ∨ ∃ kvs es, d = .dict kvs ∧ H' p = some (.dK es) ∧ RpK K H' (wi T p) kvs es)
def RK : Kd → PySem.W.Frag → Hp → Hp → Ad → PyData → V → Prop
  | .a, K, _, H', T, d, v => Rp K H' T d v
  | .b, K, _, H', T, d, v => Rb K H' T d v
  | .f, K, H, H', T, d, v => Fr K H H' T d v
section
variable {K : PySem.W.Frag} {H H0 H' H'' : Hp} {T T' : Ad} {d : PyData} {v : V}
theorem Rb.mv (m : Mv T H T H') (h : Rb K H T d v) (s : Same H H') : Rb K H' T d v := by
  rcases h with h | ⟨ds, a, xs, rfl, rfl, h1, h2⟩ | ⟨ds, a, xs, rfl, rfl, h1, h2⟩
  · exact .inl (h.mv m)
  · refine .inr (.inl ⟨ds, a, xs, rfl, rfl, ?_, h2.mv m⟩)
    rcases h1 with h1 | ⟨o, h1⟩
    · exact .inl (s _ _ h1)
    · exact .inr ⟨o, s _ _ h1⟩
  · refine .inr (.inr ⟨ds, a, xs, rfl, rfl, ?_, h2.mv m⟩)
    rcases h1 with h1 | ⟨o, h1⟩
    · exact .inl (s _ _ h1)
    · exact .inr ⟨o, s _ _ h1⟩
theorem Fr.rp (h : Fr K H H' T d v) (hT : ∀ a, T a → H a ≠ none) : Rp K H' T d v := by
  obtain ⟨p, rfl, hp, ⟨ds, xs, rfl, h1, h2⟩ | ⟨ds, xs, rfl, h1, h2⟩⟩ := h
  · exact ⟨p, xs, rfl, .inl ⟨.inl h1, fun z => hT p z hp⟩, h2.mv (.less fun a z => .inl z)⟩
  · exact ⟨p, xs, rfl, ⟨.inl h1, fun z => hT p z hp⟩, h2.mv (.less fun a z => .inl z)⟩
theorem Fr.back (h : Fr K H H' T d v) (s : Same H0 H) : Fr K H0 H' T d v := by
  obtain ⟨p, rfl, hp, r⟩ := h
  exact ⟨p, rfl, s.free hp, r⟩
theorem RK.back {k : Kd} (h : RK k K H H' T d v) (s : Same H0 H) : RK k K H0 H' T d v := by
  cases k with
  | a => exact h
  | b => exact h
  | f => exact Fr.back h s
theorem RK.toB {k : Kd} (h : RK k K H H' T d v) (hT : ∀ a, T a → H a ≠ none) : Rb K H' T d v := by
  cases k with
  | a => exact .inl h
  | b => exact h
  | f => exact .inl (Fr.rp h hT)
end

/-! ### slots -/
inductive Mo | a | b | o
abbrev Sl := List (Option (Mo × PyData))
def Ow (K : PySem.W.Frag) (H : Hp) (T : Ad) (d : PyData) (a : Addr) : Prop :=
  (∃ ds xs, d = .list ds ∧ H a = some (.lst xs) ∧ RpA K H T ds xs) ∨ ∃ kvs es, d = .dict kvs ∧ H a = some (.dK es) ∧ RpK K H T kvs es
/-- borrowed: what a caller owns may be its top, what this def owns not -/
def Rbs (K : PySem.W.Frag) (H : Hp) (S T : Ad) (d : PyData) (v : V) : Prop :=
  Rp K H T d v ∨ (∃ ds a xs, d = .list ds ∧ v = .ref a ∧ (Rd H a (.lst xs) ∧ ¬ S a) ∧ RpA K H T ds xs) ∨ ∃ kvs a es, d = .dict kvs ∧ v = .ref a ∧ (Rd H a (.dK es) ∧ ¬ S a) ∧ RpK K H T kvs es
theorem Rbs.rb {K : PySem.W.Frag} {H : Hp} {S T : Ad} {d : PyData} {v : V} (h : Rbs K H S T d v) : Rb K H T d v :=
  h.imp id (Or.imp (fun ⟨ds, a, xs, e1, e2, e3, e4⟩ => ⟨ds, a, xs, e1, e2, e3.1, e4⟩) fun ⟨ds, a, xs, e1, e2, e3, e4⟩ => ⟨ds, a, xs, e1, e2, e3.1, e4⟩)
theorem Rbs.mv {K : PySem.W.Frag} {H H' : Hp} {S S' S0 : Ad} {d : PyData} {v : V} (m : Mv S H S' H') (h : Rbs K H S (un S S0) d v) : Rbs K H' S' (un S' S0) d v := by
  rcases h with h | ⟨ds, a, xs, rfl, rfl, h1, h2⟩ | ⟨ds, a, xs, rfl, rfl, h1, h2⟩
  · exact .inl (Rp.mv m.un _ _ h)
  · exact .inr (.inl ⟨ds, a, xs, rfl, rfl, rd_mv m h1, h2.mv m.un⟩)
  · exact .inr (.inr ⟨ds, a, xs, rfl, rfl, rd_mv m h1, h2.mv m.un⟩)
def SlV (K : PySem.W.Frag) (S0 S : Ad) (H : Hp) : Mo → PyData → V → Prop
  | .a, d, v => Rp K H (un S S0) d v
  | .b, d, v => Rbs K H S (un S S0) d v
  | .o, d, v => ∃ a, v = .ref a ∧ S a ∧ Ow K H (un S S0) d a
/-- the variables as told by sl; S0: what the callers may change, S: the lists that this def owns -/
structure EnvS (K : PySem.W.Frag) (S0 S : Ad) (H : Hp) (sl : Sl) (σ : St) : Prop where
  len : sl.length = σ.length
  dS : ∀ a, S a → H a ≠ none
  d0 : ∀ a, S0 a → H a ≠ none
  ap : ∀ a, S a → ¬ S0 a
  at_ : ∀ (i : Nat) (m : Mo) (d : PyData), sl[i]? = some (some (m, d)) → ∃ v, σ[i]? = some (some v) ∧ SlV K S0 S H m d v
  one : ∀ (i j : Nat) (d e : PyData) (v : V), i ≠ j → sl[i]? = some (some (.o, d)) → sl[j]? = some (some (.o, e)) → σ[i]? = some (some v) → σ[j]? ≠ some (some v)
section
variable {K : PySem.W.Frag} {H H0 H' H'' : Hp} {S0 S S' : Ad} {d : PyData} {v : V} {sl : Sl} {σ : St}
theorem EnvS.dT (E : EnvS K S0 S H sl σ) : ∀ a, un S S0 a → H a ≠ none := fun a h => h.elim (E.dS a) (E.d0 a)
theorem Ow.mv {T : Ad} {a : Addr} (s : Same H H') (h : Ow K H T d a) : Ow K H' T d a := by
  rcases h with ⟨ds, xs, rfl, h1, h2⟩ | ⟨ds, xs, rfl, h1, h2⟩
  · exact .inl ⟨ds, xs, rfl, s _ _ h1, h2.mv (.same s)⟩
  · exact .inr ⟨ds, xs, rfl, s _ _ h1, h2.mv (.same s)⟩
theorem SlV.same {m : Mo} (s : Same H H') (h : SlV K S0 S H m d v) : SlV K S0 S H' m d v := by
  cases m with
  | a => exact Rp.mv (.same s) d v h
  | b => exact Rbs.mv (.same s) h
  | o =>
    obtain ⟨a, e, h1, h2⟩ := h
    exact ⟨a, e, h1, h2.mv s⟩
theorem nn_same (s : Same H H') {a : Addr} (h : H a ≠ none) : H' a ≠ none := by
  cases e : H a with
  | none => exact absurd e h
  | some o => rw [s a o e]; simp
theorem EnvS.same (E : EnvS K S0 S H sl σ) (s : Same H H') : EnvS K S0 S H' sl σ where
  len := E.len
  dS := fun a h => nn_same s (E.dS a h)
  d0 := fun a h => nn_same s (E.d0 a h)
  ap := E.ap
  at_ := fun i m d h => by
    obtain ⟨v, h1, h2⟩ := E.at_ i m d h
    exact ⟨v, h1, h2.same s⟩
  one := E.one
end

/-! ### typed values -/
class Enc (τ : Type) where
  enc : τ → PyData
open Enc (enc)
instance : Enc Int := ⟨.int⟩
instance : Enc Bool := ⟨.bool⟩
instance : Enc Str := ⟨.str⟩
instance : Enc Unit := ⟨fun _ => .none⟩
instance {τ : Type} [Enc τ] : Enc (List τ) := ⟨fun xs => .list (xs.map enc)⟩
instance {τ : Type} [Enc τ] : Enc (Option τ) := ⟨fun x => match x with | none => .none | some t => enc t⟩
structure T2 (α β : Type) where
  mk ::
  a : α
  b : β
  deriving DecidableEq
structure T3 (α β γ : Type) where
  mk ::
  a : α
  b : β
  c : γ
  deriving DecidableEq
structure T4 (α β γ δ : Type) where
  mk ::
  a : α
  b : β
  c : γ
  d : δ
  deriving DecidableEq
instance {α β : Type} [Enc α] [Enc β] : Enc (T2 α β) := ⟨fun t => .tuple [enc t.a, enc t.b]⟩
instance {α β γ : Type} [Enc α] [Enc β] [Enc γ] : Enc (T3 α β γ) := ⟨fun t => .tuple [enc t.a, enc t.b, enc t.c]⟩
instance {α β γ δ : Type} [Enc α] [Enc β] [Enc γ] [Enc δ] : Enc (T4 α β γ δ) := ⟨fun t => .tuple [enc t.a, enc t.b, enc t.c, enc t.d]⟩

/-! ### the judgements -/
variable {Γ Γ' ρ τ α β : Type}
/-- an expression's reading -/
def tD [Enc τ] (K : PySem.W.Frag) (sl : Γ → Sl) (k : Kd) (f : Γ → Option τ) : TE := fun σ H Q =>
  ∃ (g : Γ) (S0 S : Ad) (t : τ), EnvS K S0 S H (sl g) σ ∧ f g = some t ∧ ∀ v H', Same H H' → RK k K H H' (un S S0) (enc t) v → Q v H'
def PV [Enc τ] (X : Cx) (sl : Γ → Sl) (k : Kd) (e : Expr) (f : Γ → Option τ) : Prop := PE X e (tD X.K sl k f)
/-- a test's -/
def tB (K : PySem.W.Frag) (sl : Γ → Sl) (f : Γ → Option Bool) : TT := fun σ H Q =>
  ∃ (g : Γ) (S0 S : Ad) (t : Bool), EnvS K S0 S H (sl g) σ ∧ f g = some t ∧ ∀ H', Same H H' → Q t H'
def PB (X : Cx) (sl : Γ → Sl) (e : Expr) (f : Γ → Option Bool) : Prop := PT X e (tB X.K sl f)
def PBw (X : Cx) (sl : Γ → Sl) (e : Expr) (f : Γ → Option Bool) : Prop := PW X e (tB X.K sl f)

theorem PE.imp {X : Cx} {e : Expr} {t t' : TE} (h : PE X e t) (i : ∀ σ H Q, t' σ H Q → t σ H Q) : PE X e t' := ⟨fun pins s σ H Q I q => h.run pins s σ H Q I (i σ H Q q)⟩
theorem PT.imp {X : Cx} {e : Expr} {t t' : TT} (h : PT X e t) (i : ∀ σ H Q, t' σ H Q → t σ H Q) : PT X e t' := ⟨fun pins s σ H Q I q => h.run pins s σ H Q I (i σ H Q q)⟩
theorem PW.imp {X : Cx} {e : Expr} {t t' : TT} (h : PW X e t) (i : ∀ σ H Q, t' σ H Q → t σ H Q) : PW X e t' := ⟨fun wh pins s σ H Q I q => h.run wh pins s σ H Q I (i σ H Q q)⟩
theorem PS.imp {X : Cx} {e : Stmt} {t t' : TS} (h : PS X e t) (i : ∀ D σ H, t' D σ H → t D σ H) : PS X e t' := ⟨fun pins s σ H Q I q => h.run pins s σ H Q I (i Q σ H q)⟩
theorem PSs.imp {X : Cx} {e : List Stmt} {t t' : TS} (h : PSs X e t) (i : ∀ D σ H, t' D σ H → t D σ H) : PSs X e t' := ⟨fun pins s σ H Q I q => h.run pins s σ H Q I (i Q σ H q)⟩
theorem PI.imp {X : Cx} {tg e : Expr} {t t' : TI} (h : PI X tg e t) (i : ∀ σ H Q, t' σ H Q → t σ H Q) : PI X tg e t' := ⟨fun pins s σ H Q I q => h.run pins s σ H Q I (i σ H Q q)⟩
theorem PA.imp {X : Cx} {e : List Expr} {t t' : TA} (h : PA X e t) (i : ∀ σ H Q, t' σ H Q → t σ H Q) : PA X e t' := ⟨fun pos pins s σ H Q I q => h.run pos pins s σ H Q I (i σ H Q q)⟩
theorem PO.imp {X : Cx} {e : Option Expr} {t t' : TO} (h : PO X e t) (i : ∀ σ H Q, t' σ H Q → t σ H Q) : PO X e t' := ⟨fun pins s σ H Q I q => h.run pins s σ H Q I (i σ H Q q)⟩
theorem PTs.imp {X : Cx} {e : List Expr} {t t' : TT} (h : PTs X e t) (i : ∀ σ H Q, t' σ H Q → t σ H Q) : PTs X e t' := ⟨fun pins s σ H Q I q => h.run pins s σ H Q I (i σ H Q q)⟩

end PL

/-! PL2: expressions. -/
namespace PL
open PySem PySem.Spec L2
open Enc (enc)

/-- texts by their signs -/
structure Tx where
  mk ::
  cs : List Nat
  deriving DecidableEq
instance : Enc Tx := ⟨fun t => .str ⟨t.cs.toArray⟩⟩

section
variable {K : PySem.W.Frag} {H : Hp} {T : Ad} {v : V}
theorem rb_int {i : Int} (h : Rb K H T (.int i) v) : v = .int i := by
  rcases h with h | ⟨_, _, _, e, _⟩ | ⟨_, _, _, e, _⟩
  · exact h
  · cases e
  · cases e
theorem rb_bool {i : Bool} (h : Rb K H T (.bool i) v) : v = .bl i := by
  rcases h with h | ⟨_, _, _, e, _⟩ | ⟨_, _, _, e, _⟩
  · exact h
  · cases e
  · cases e
theorem rb_str {i : Str} (h : Rb K H T (.str i) v) : v = .str i := by
  rcases h with h | ⟨_, _, _, e, _⟩ | ⟨_, _, _, e, _⟩
  · exact h
  · cases e
  · cases e
theorem rb_none (h : Rb K H T .none v) : v = .non := by
  rcases h with h | ⟨_, _, _, e, _⟩ | ⟨_, _, _, e, _⟩
  · exact h
  · cases e
  · cases e
theorem rb_tup {ds : List PyData} (h : Rb K H T (.tuple ds) v) : ∃ a xs, v = .ref a ∧ SqT K H a xs ∧ RpA K H T ds xs := by
  rcases h with ⟨a, xs, e, h1, h2⟩ | ⟨_, _, _, e, _⟩ | ⟨_, _, _, e, _⟩
  · exact ⟨a, xs, e, h1.sq, h2⟩
  · cases e
  · cases e
theorem rb_list {ds : List PyData} (h : Rb K H T (.list ds) v) : ∃ a xs, v = .ref a ∧ SqL K H a xs ∧ RpA K H T ds xs := by
  rcases h with ⟨a, xs, e, h1, h2⟩ | ⟨_, a, xs, e, rfl, h1, h2⟩ | ⟨_, _, _, e, _⟩
  · exact ⟨a, xs, e, h1.sq, h2⟩
  · cases e
    exact ⟨a, xs, rfl, .inl h1, h2⟩
  · cases e
theorem rpa_map {τ : Type} (g : τ → V) {e : τ → PyData} (h : ∀ t w, Rp K H T (e t) w → w = g t) : ∀ {xs : List τ} {vs : List V}, RpA K H T (xs.map e) vs → vs = xs.map g
  | [], vs, q => q
  | x :: xs, vs, q => by
    obtain ⟨v, ws, rfl, h1, h2⟩ := q
    rw [List.map_cons, h x v h1, rpa_map g h h2]
theorem rpa_int {xs : List Int} {vs : List V} (h : RpA K H T (xs.map enc) vs) : vs = xs.map V.int := rpa_map (e := fun i : Int => enc i) V.int (fun t w q => show w = V.int t from q) h
theorem rpa_bool {xs : List Bool} {vs : List V} (h : RpA K H T (xs.map enc) vs) : vs = xs.map V.bl := rpa_map (e := fun i : Bool => enc i) V.bl (fun t w q => show w = V.bl t from q) h
theorem rpa_tx {xs : List Tx} {vs : List V} (h : RpA K H T (xs.map enc) vs) : vs = (xs.map fun t => (⟨t.cs.toArray⟩ : Str)).map V.str := by
  rw [List.map_map]
  exact rpa_map (e := fun i : Tx => enc i) (fun t => V.str ⟨t.cs.toArray⟩) (fun t w q => show w = V.str ⟨t.cs.toArray⟩ from q) h
end

variable {Γ Γ' ρ τ α β : Type} {X : Cx} {sl : Γ → Sl} {e a b c : Expr} {k k1 k2 k3 : Kd} {pos : Pos}

theorem bind2 {f : Option α} {g : Option β} {h : α → β → Option τ} {t : τ} (e : (f.bind fun x => g.bind fun y => h x y) = some t) : ∃ x y, f = some x ∧ g = some y ∧ h x y = some t := by
  cases f with
  | none => cases e
  | some x =>
    cases g with
    | none => cases e
    | some y => exact ⟨x, y, rfl, rfl, e⟩
theorem bind1 {f : Option α} {h : α → Option τ} {t : τ} (e : (f.bind fun x => h x) = some t) : ∃ x, f = some x ∧ h x = some t := by
  cases f with
  | none => cases e
  | some x => exact ⟨x, rfl, e⟩
/-! ### from kind to kind -/
theorem PV.ab [Enc τ] {f : Γ → Option τ} (h : PV X sl .a e f) : PV X sl .b e f := PE.imp h fun σ H Q ⟨g, S0, S, t, E, hf, q⟩ => ⟨g, S0, S, t, E, hf, fun v H' s r => q v H' s (.inl r)⟩
theorem PV.fa [Enc τ] {f : Γ → Option τ} (h : PV X sl .f e f) : PV X sl .a e f := PE.imp h fun σ H Q ⟨g, S0, S, t, E, hf, q⟩ => ⟨g, S0, S, t, E, hf, fun v H' s r => q v H' s (Fr.rp r E.dT)⟩
theorem PV.fb [Enc τ] {f : Γ → Option τ} (h : PV X sl .f e f) : PV X sl .b e f := h.fa.ab
/-- what is no list and no dict is never owned -/
class NoL (τ : Type) [Enc τ] : Prop where
  nl : ∀ (t : τ), (∀ ds, enc t ≠ .list ds) ∧ ∀ ds, enc t ≠ .dict ds
instance : NoL Int := ⟨fun _ => ⟨nofun, nofun⟩⟩
instance : NoL Bool := ⟨fun _ => ⟨nofun, nofun⟩⟩
instance : NoL Tx := ⟨fun _ => ⟨nofun, nofun⟩⟩
instance : NoL Unit := ⟨fun _ => ⟨nofun, nofun⟩⟩
instance {α β : Type} [Enc α] [Enc β] : NoL (T2 α β) := ⟨fun _ => ⟨nofun, nofun⟩⟩
instance {α β γ : Type} [Enc α] [Enc β] [Enc γ] : NoL (T3 α β γ) := ⟨fun _ => ⟨nofun, nofun⟩⟩
instance {α β γ δ : Type} [Enc α] [Enc β] [Enc γ] [Enc δ] : NoL (T4 α β γ δ) := ⟨fun _ => ⟨nofun, nofun⟩⟩
instance {α : Type} [Enc α] [NoL α] : NoL (Option α) := ⟨fun t => match t with
  | none => ⟨nofun, nofun⟩
  | some t => NoL.nl t⟩
theorem Rb.rp {K : PySem.W.Frag} {H : Hp} {T : Ad} {v : V} [Enc τ] [NoL τ] {t : τ} (h : Rb K H T (enc t) v) : Rp K H T (enc t) v := by
  rcases h with h | ⟨ds, _, _, e, _⟩ | ⟨ds, _, _, e, _⟩
  · exact h
  · exact absurd e ((NoL.nl t).1 ds)
  · exact absurd e ((NoL.nl t).2 ds)
theorem PV.ba [Enc τ] [NoL τ] {f : Γ → Option τ} (h : PV X sl .b e f) : PV X sl .a e f := PE.imp h fun σ H Q ⟨g, S0, S, t, E, hf, q⟩ => ⟨g, S0, S, t, E, hf, fun v H' s r => q v H' s (Rb.rp r)⟩
/-- what is known to be there -/
theorem PV.cast [Enc τ] {f : Γ → Option (Option τ)} (h : PV X sl k e f) : PV X sl k e (fun g => (f g).bind fun t => t) := PE.imp h fun σ H Q ⟨g, S0, S, t, E, hf, q⟩ => by
  obtain ⟨u, h1, hf⟩ := bind1 hf
  have hf : u = some t := hf
  subst hf
  exact ⟨g, S0, S, some t, E, h1, q⟩
theorem PV.opt [Enc τ] {f : Γ → Option τ} (h : PV X sl k e f) : PV X sl k e (fun g => (f g).bind fun t => some (some t)) := PE.imp h fun σ H Q ⟨g, S0, S, t, E, hf, q⟩ => by
  obtain ⟨u, h1, hf⟩ := bind1 hf
  have hf : some u = t := Option.some.inj hf
  subst hf
  exact ⟨g, S0, S, u, E, h1, q⟩
/-- another way to write the plain function -/
theorem PV.eq [Enc τ] {f f' : Γ → Option τ} (h : PV X sl k e f) (h' : f' = f) : PV X sl k e f' := h' ▸ h

/-! ### names, constants -/
theorem pv_var [Enc τ] {i : Nat} {x : Str} (p : Γ → τ) (h : ∀ g, (sl g)[i]? = some (some (.a, enc (p g)))) (hN : X.N[i]? = some x := by rfl)
    (hv : Vis X.env.scope x := by first | exact Or.inl rfl | exact Or.inr (Or.inl rfl) | exact Or.inr (Or.inr rfl)) (hd : (x == ("__debug__" : Str)) = false := by decide) (hcd : (x == ("__classdict__" : Str)) = false := by decide) :
    PV X sl .a (.Name x pos) (fun g => some (p g)) := PE.imp (pe_var (i := i) hN hv hd hcd) fun σ H Q ⟨g, S0, S, t, E, hf, q⟩ => by
  obtain ⟨v, h1, h2⟩ := E.at_ i _ _ (h g)
  cases hf
  exact ⟨v, h1, q v H (Same.refl H) h2⟩
theorem pv_varb [Enc τ] {i : Nat} {x : Str} (p : Γ → τ) (h : ∀ g, (sl g)[i]? = some (some (.b, enc (p g)))) (hN : X.N[i]? = some x := by rfl)
    (hv : Vis X.env.scope x := by first | exact Or.inl rfl | exact Or.inr (Or.inl rfl) | exact Or.inr (Or.inr rfl)) (hd : (x == ("__debug__" : Str)) = false := by decide) (hcd : (x == ("__classdict__" : Str)) = false := by decide) :
    PV X sl .b (.Name x pos) (fun g => some (p g)) := PE.imp (pe_var (i := i) hN hv hd hcd) fun σ H Q ⟨g, S0, S, t, E, hf, q⟩ => by
  obtain ⟨v, h1, h2⟩ := E.at_ i _ _ (h g)
  cases hf
  exact ⟨v, h1, q v H (Same.refl H) h2.rb⟩
theorem pv_varo [Enc τ] {i : Nat} {x : Str} (p : Γ → τ) (h : ∀ g, (sl g)[i]? = some (some (.o, enc (p g)))) (hN : X.N[i]? = some x := by rfl)
    (hv : Vis X.env.scope x := by first | exact Or.inl rfl | exact Or.inr (Or.inl rfl) | exact Or.inr (Or.inr rfl)) (hd : (x == ("__debug__" : Str)) = false := by decide) (hcd : (x == ("__classdict__" : Str)) = false := by decide) :
    PV X sl .b (.Name x pos) (fun g => some (p g)) := PE.imp (pe_var (i := i) hN hv hd hcd) fun σ H Q ⟨g, S0, S, t, E, hf, q⟩ => by
  obtain ⟨v, h1, a, e, h2, h3⟩ := E.at_ i _ _ (h g)
  cases hf
  refine ⟨v, h1, q v H (Same.refl H) ?_⟩
  rcases h3 with ⟨ds, xs, e1, e2, e3⟩ | ⟨ds, xs, e1, e2, e3⟩
  · exact .inr (.inl ⟨ds, a, xs, e1, e, .inl e2, e3⟩)
  · exact .inr (.inr ⟨ds, a, xs, e1, e, .inl e2, e3⟩)
theorem pv_c [Enc τ] {v : V} (t : τ) (he : PE X e (tC v)) (h : ∀ K H T, Rp K H T (enc t) v) : PV X sl .a e (fun _ => some t) := PE.imp he fun σ H Q ⟨g, S0, S, t', E, hf, q⟩ => by
  cases hf
  exact q v H (Same.refl H) (h _ _ _)
theorem pv_int {i : Int} {j} : PV X sl .a (.Constant (.int i) j pos) (fun _ => some i) := pv_c i pe_int fun _ _ _ => rfl
theorem pv_bool {i : Bool} {j} : PV X sl .a (.Constant (.bool i) j pos) (fun _ => some i) := pv_c i pe_bl fun _ _ _ => rfl
theorem pv_none {j} : PV X sl .a (.Constant .none j pos) (fun _ => some ()) := pv_c () pe_non fun _ _ _ => rfl
/-- None where something may be -/
theorem pv_noneO [Enc τ] {j} : PV X sl .a (.Constant .none j pos) (fun _ => some (none : Option τ)) := pv_c none pe_non fun _ _ _ => rfl
theorem pv_str {x : Str} {j} (l : List Nat) (h : x = ⟨l.toArray⟩ := by decide +kernel) : PV X sl .a (.Constant (.str x) j pos) (fun _ => some (⟨l⟩ : Tx)) := pv_c _ pe_str fun _ _ _ => by rw [h]; rfl
/-- a module's constant -/
theorem pv_gint {x : Str} {i : Int} {u : Value} (hg : Gl X x) (hm : X.mg x = some u) (r : RelV (.int i) u) (hd : (x == ("__debug__" : Str)) = false := by decide) : PV X sl .a (.Name x pos) (fun _ => some i) :=
  pv_c i (pe_glob hg hm r hd) fun _ _ _ => rfl
theorem pv_gstr {x y : Str} {u : Value} (l : List Nat) (hg : Gl X x) (hm : X.mg x = some u) (r : RelV (.str y) u) (h : y = ⟨l.toArray⟩ := by decide +kernel) (hd : (x == ("__debug__" : Str)) = false := by decide) : PV X sl .a (.Name x pos) (fun _ => some (⟨l⟩ : Tx)) :=
  pv_c _ (pe_glob hg hm r hd) fun _ _ _ => by rw [h]; rfl

/-! ### operations by values -/
/-- what a two-place rule asks, in plain words -/
def Ask2 [Enc α] [Enc β] [Enc τ] (K : PySem.W.Frag) (r : R2) (k : Kd) (g : α → β → Option τ) : Prop :=
  ∀ (T : Ad) (H : Hp) (x y : V) (u : α) (w : β) (t : τ) (Q : VK), (∀ a, T a → H a ≠ none) → Rb K H T (enc u) x → Rb K H T (enc w) y → g u w = some t → (∀ v H', Same H H' → RK k K H H' T (enc t) v → Q v H') → r x y H Q
def Ask1 [Enc α] [Enc τ] (K : PySem.W.Frag) (r : V → Hp → VK → Prop) (k : Kd) (g : α → Option τ) : Prop :=
  ∀ (T : Ad) (H : Hp) (x : V) (u : α) (t : τ) (Q : VK), (∀ a, T a → H a ≠ none) → Rb K H T (enc u) x → g u = some t → (∀ v H', Same H H' → RK k K H H' T (enc t) v → Q v H') → r x H Q
theorem pv_2 [Enc α] [Enc β] [Enc τ] {r : R2} {fa : Γ → Option α} {fb : Γ → Option β} {g : α → β → Option τ} (h : ∀ {ta tb : TE}, PE X a ta → PE X b tb → PE X e (tOp r ta tb)) (ask : Ask2 X.K r k g)
    (ha : PV X sl .b a fa) (hb : PV X sl .b b fb) : PV X sl k e (fun s => (fa s).bind fun x => (fb s).bind fun y => g x y) := PE.imp (h ha hb) fun σ H Q ⟨γ, S0, S, t, E, hf, q⟩ => by
  obtain ⟨u, w, h1, h2, h3⟩ := bind2 hf
  refine ⟨γ, S0, S, u, E, h1, fun x H1 s1 r1 => ⟨γ, S0, S, w, E.same s1, h2, fun y H2 s2 r2 => ?_⟩⟩
  have s12 := s1.trans s2
  exact ask (un S S0) H2 x y u w t Q (E.same s12).dT (Rb.mv (.same s2) r1 s2) r2 h3 fun v H' s3 r3 => q v H' (s12.trans s3) (r3.back s12)
theorem pv_1 [Enc α] [Enc τ] {r : V → Hp → VK → Prop} {fa : Γ → Option α} {g : α → Option τ} (h : ∀ {ta : TE}, PE X a ta → PE X e (tUn r ta)) (ask : Ask1 X.K r k g)
    (ha : PV X sl .b a fa) : PV X sl k e (fun s => (fa s).bind fun x => g x) := PE.imp (h ha) fun σ H Q ⟨γ, S0, S, t, E, hf, q⟩ => by
  obtain ⟨u, h1, h3⟩ := bind1 hf
  refine ⟨γ, S0, S, u, E, h1, fun x H1 s1 r1 => ?_⟩
  exact ask (un S S0) H1 x u t Q (E.same s1).dT r1 h3 fun v H' s3 r3 => q v H' (s1.trans s3) (r3.back s1)
/-- a call of a known function with one value, with two -/
theorem pv_c1 [Enc α] [Enc τ] {r : List V → Hp → VK → Prop} {fa : Γ → Option α} {g : α → Option τ} (h : ∀ {ta : TE}, PE X a ta → PE X e (tCB r (tCons ta tNil))) (ask : Ask1 X.K (fun x => r [x]) k g)
    (ha : PV X sl .b a fa) : PV X sl k e (fun s => (fa s).bind fun x => g x) := pv_1 (r := fun x => r [x]) (fun {ta} h' => h h') ask ha
theorem pv_c2 [Enc α] [Enc β] [Enc τ] {r : List V → Hp → VK → Prop} {fa : Γ → Option α} {fb : Γ → Option β} {g : α → β → Option τ} (h : ∀ {ta tb : TE}, PE X a ta → PE X b tb → PE X e (tCB r (tCons ta (tCons tb tNil)))) (ask : Ask2 X.K (fun x y => r [x, y]) k g)
    (ha : PV X sl .b a fa) (hb : PV X sl .b b fb) : PV X sl k e (fun s => (fa s).bind fun x => (fb s).bind fun y => g x y) := pv_2 (r := fun x y => r [x, y]) (fun {ta tb} h1 h2 => h h1 h2) ask ha hb

/-! ### ints -/
def iMod (x y : Int) : Option Int := if 0 < y then some (x % y) else none
def iDiv (x y : Int) : Option Int := if 0 < y ∧ y.natAbs.log2 < 9000 then some (x / y) else none
def iMul (x y : Int) : Option Int := if x.natAbs.log2 + y.natAbs.log2 < 1000000 then some (x * y) else none
def iPow (x y : Int) : Option Int := if 0 ≤ y ∧ y ≤ 1000000 ∧ x.natAbs < 2 ^ 64 then some (x ^ y.toNat) else none
theorem if_some {p : Prop} [Decidable p] {x t : τ} (h : (if p then some x else none) = some t) : p ∧ x = t := by
  by_cases hp : p
  · rw [if_pos hp] at h; exact ⟨hp, Option.some.inj h⟩
  · rw [if_neg hp] at h; cases h
theorem ask_rI {C : Int → Int → Prop} {f : Int → Int → V} [Enc τ] {g : Int → Int → Option τ} {K : PySem.W.Frag} (h : ∀ x y t, g x y = some t → C x y ∧ ∀ K H T, Rp K H T (enc t) (f x y)) : Ask2 K (rI C f) .a g := by
  intro T H x y u w t Q hT r1 r2 e q
  obtain ⟨hc, hr⟩ := h u w t e
  exact ⟨u, w, rb_int r1, rb_int r2, hc, q _ H (Same.refl H) (hr _ _ _)⟩
theorem ask_rI0 {f : Int → Int → V} [Enc τ] {g : Int → Int → Option τ} {K : PySem.W.Frag} (h : ∀ x y t, g x y = some t → ∀ K H T, Rp K H T (enc t) (f x y)) : Ask2 K (rI0 f) .a g := by
  intro T H x y u w t Q hT r1 r2 e q
  exact ⟨u, w, rb_int r1, rb_int r2, q _ H (Same.refl H) (h u w t e _ _ _)⟩
section
variable {fa fb fc : Γ → Option Int}
theorem pv_add (ha : PV X sl .b a fa) (hb : PV X sl .b b fb) : PV X sl .a (.BinOp a .Add b pos) (fun s => (fa s).bind fun x => (fb s).bind fun y => some (x + y)) :=
  pv_2 (pe_op op_add) (ask_rI0 fun x y t e K H T => by cases e; rfl) ha hb
theorem pv_sub (ha : PV X sl .b a fa) (hb : PV X sl .b b fb) : PV X sl .a (.BinOp a .Sub b pos) (fun s => (fa s).bind fun x => (fb s).bind fun y => some (x - y)) :=
  pv_2 (pe_op op_sub) (ask_rI0 fun x y t e K H T => by cases e; rfl) ha hb
theorem pv_mul (ha : PV X sl .b a fa) (hb : PV X sl .b b fb) : PV X sl .a (.BinOp a .Mult b pos) (fun s => (fa s).bind fun x => (fb s).bind fun y => iMul x y) :=
  pv_2 (pe_op op_mulW) (ask_rI fun x y t e => by obtain ⟨h1, rfl⟩ := if_some e; exact ⟨h1, fun _ _ _ => rfl⟩) ha hb
theorem pv_div (ha : PV X sl .b a fa) (hb : PV X sl .b b fb) : PV X sl .a (.BinOp a .FloorDiv b pos) (fun s => (fa s).bind fun x => (fb s).bind fun y => iDiv x y) :=
  pv_2 (pe_op op_fdivW) (ask_rI fun x y t e => by obtain ⟨h1, rfl⟩ := if_some e; exact ⟨h1, fun _ _ _ => rfl⟩) ha hb
theorem pv_mod (ha : PV X sl .b a fa) (hb : PV X sl .b b fb) : PV X sl .a (.BinOp a .Mod b pos) (fun s => (fa s).bind fun x => (fb s).bind fun y => iMod x y) :=
  pv_2 (pe_op op_mod) (ask_rI fun x y t e => by obtain ⟨h1, rfl⟩ := if_some e; exact ⟨h1, fun _ _ _ => rfl⟩) ha hb
theorem pv_pow (ha : PV X sl .b a fa) (hb : PV X sl .b b fb) : PV X sl .a (.BinOp a .Pow b pos) (fun s => (fa s).bind fun x => (fb s).bind fun y => iPow x y) :=
  pv_2 (pe_op op_pow) (ask_rI fun x y t e => by obtain ⟨h1, rfl⟩ := if_some e; exact ⟨h1, fun _ _ _ => rfl⟩) ha hb
theorem pv_neg (ha : PV X sl .b a fa) : PV X sl .a (.UnaryOp .USub a pos) (fun s => (fa s).bind fun x => some (-x)) :=
  pv_1 (pe_un un_neg) (fun T H x u t Q hT r e q => ⟨u, rb_int r, q _ H (Same.refl H) (by cases e; rfl)⟩) ha

/-! ### comparisons of ints -/
/-- a comparison's rule: values to a truth value -/
structure Cmp (X : Cx) (op : CmpOp) (α β : Type) [Enc α] [Enc β] (g : α → β → Option Bool) where
  r : R2
  rule : OpR X (compareOp op) r
  ask : Ask2 X.K r .a g
def c_lt : Cmp X .Lt Int Int (fun x y => some (decide (x < y))) := ⟨_, op_lt, ask_rI0 fun x y t e K H T => by cases e; rfl⟩
def c_le : Cmp X .LtE Int Int (fun x y => some (decide (x ≤ y))) := ⟨_, op_le, ask_rI0 fun x y t e K H T => by cases e; rfl⟩
def c_gt : Cmp X .Gt Int Int (fun x y => some (decide (x > y))) := ⟨_, op_gt, ask_rI0 fun x y t e K H T => by cases e; rfl⟩
def c_ge : Cmp X .GtE Int Int (fun x y => some (decide (x ≥ y))) := ⟨_, op_ge, ask_rI0 fun x y t e K H T => by cases e; rfl⟩
end
end PL

/-! PL3: comparisons, tests, data, lists. -/
namespace PL
open PySem PySem.Spec L2
open Enc (enc)

variable {Γ Γ' ρ τ α β γ' : Type} {X : Cx} {sl : Γ → Sl} {e a b c : Expr} {k k1 k2 k3 : Kd} {pos : Pos}
section
variable [Enc α] [Enc β] [Enc γ'] {op op' : CmpOp} {g : α → β → Option Bool} {g' : β → γ' → Option Bool} {fa : Γ → Option α} {fb : Γ → Option β} {fc : Γ → Option γ'}
theorem pv_cmp (C : Cmp X op α β g) (ha : PV X sl .b a fa) (hb : PV X sl .b b fb) (hm : behindInMarks op b = false := by first | exact nomark _ | with_unfolding_all rfl) : PV X sl .a (.Compare a [op] [b] pos) (fun s => (fa s).bind fun x => (fb s).bind fun y => g x y) :=
  pv_2 (fun h1 h2 => pe_cmpR C.rule h1 h2 hm) C.ask ha hb
/-- a value that is a truth value, as a test's reading -/
theorem tB_of {K : PySem.W.Frag} {f : Γ → Option Bool} {σ : L2.St} {H : Hp} {Q : Bool → Hp → Prop} (h : tB K sl f σ H Q) : tD K sl .a f σ H fun v H' => ∃ k, v = .bl k ∧ Q k H' := by
  obtain ⟨g, S0, S, t, E, hf, q⟩ := h
  exact ⟨g, S0, S, t, E, hf, fun v H' s r => ⟨t, r, q H' s⟩⟩
theorem pb_cmp (C : Cmp X op α β g) (ha : PV X sl .b a fa) (hb : PV X sl .b b fb) (hm : behindInMarks op b = false := by first | exact nomark _ | with_unfolding_all rfl) : PB X sl (.Compare a [op] [b] pos) (fun s => (fa s).bind fun x => (fb s).bind fun y => g x y) :=
  PT.imp (pt_cmpR C.rule ha hb hm) fun σ H Q h => by
    obtain ⟨γ, S0, S, t, E, hf, q⟩ := h
    obtain ⟨u, w, h1, h2, h3⟩ := bind2 hf
    refine ⟨γ, S0, S, u, E, h1, fun x H1 s1 r1 => ⟨γ, S0, S, w, E.same s1, h2, fun y H2 s2 r2 => ?_⟩⟩
    have s12 := s1.trans s2
    exact C.ask (un S S0) H2 x y u w t _ (E.same s12).dT (Rb.mv (.same s2) r1 s2) r2 h3 fun v H' s3 r3 => ⟨t, r3, q H' (s12.trans s3)⟩
theorem pv_val {f : Γ → Option Bool} (h : PV X sl .a e f) (he : ∀ whole, isTrue e X.env whole = (do let v ← whole; standAt e.pos; holding [v] (truthy v)) := by intro _; rfl) : PB X sl e f :=
  PT.imp (pt_val h he) fun σ H Q h => tB_of h
theorem pv_chain (C : Cmp X op α β g) (C' : Cmp X op' β γ' g') (ha : PV X sl .b a fa) (hb : PV X sl .b b fb) (hc : PV X sl .b c fc) (hm : lastMarks [op, op'] [b, c] = false := by with_unfolding_all rfl) :
    PV X sl .a (.Compare a [op, op'] [b, c] pos) (fun s => (fa s).bind fun x => (fb s).bind fun y => (g x y).bind fun t => if t = true then (fc s).bind fun z => g' y z else some false) :=
  PE.imp (pe_chain C.rule C'.rule ha hb hc hm) fun σ H Q h => by
    obtain ⟨γ, S0, S, t, E, hf, q⟩ := h
    obtain ⟨u, w, h1, h2, h3⟩ := bind2 hf
    obtain ⟨t1, h4, h5⟩ := bind1 h3
    refine ⟨γ, S0, S, u, E, h1, fun x H1 s1 r1 => ⟨γ, S0, S, w, E.same s1, h2, fun y H2 s2 r2 => ?_⟩⟩
    have s12 := s1.trans s2
    refine C.ask (un S S0) H2 x y u w t1 _ (E.same s12).dT (Rb.mv (.same s2) r1 s2) r2 h4 fun v H3 s3 r3 => ⟨t1, r3, ?_⟩
    have s13 := s12.trans s3
    cases t1 with
    | false =>
      cases h5
      exact q _ H3 s13 rfl
    | true =>
      obtain ⟨z, h6, h7⟩ := bind1 h5
      refine ⟨γ, S0, S, z, E.same s13, h6, fun z' H4 s4 r4 => ?_⟩
      have s14 := s13.trans s4
      exact C'.ask (un S S0) H4 y z' w z t Q (E.same s14).dT (Rb.mv (.same (s3.trans s4)) r2 (s3.trans s4)) r4 h7 fun v H5 s5 r5 => q v H5 (s14.trans s5) r5
theorem pb_chain (C : Cmp X op α β g) (C' : Cmp X op' β γ' g') (ha : PV X sl .b a fa) (hb : PV X sl .b b fb) (hc : PV X sl .b c fc) (hm : lastMarks [op, op'] [b, c] = false := by with_unfolding_all rfl) :
    PB X sl (.Compare a [op, op'] [b, c] pos) (fun s => (fa s).bind fun x => (fb s).bind fun y => (g x y).bind fun t => if t = true then (fc s).bind fun z => g' y z else some false) :=
  PT.imp (pt_chain C.rule C'.rule ha hb hc hm) fun σ H Q h => by
    obtain ⟨γ, S0, S, t, E, hf, q⟩ := h
    obtain ⟨u, w, h1, h2, h3⟩ := bind2 hf
    obtain ⟨t1, h4, h5⟩ := bind1 h3
    refine ⟨γ, S0, S, u, E, h1, fun x H1 s1 r1 => ⟨γ, S0, S, w, E.same s1, h2, fun y H2 s2 r2 => ?_⟩⟩
    have s12 := s1.trans s2
    refine C.ask (un S S0) H2 x y u w t1 _ (E.same s12).dT (Rb.mv (.same s2) r1 s2) r2 h4 fun v H3 s3 r3 => ⟨t1, r3, ?_⟩
    have s13 := s12.trans s3
    cases t1 with
    | false =>
      cases h5
      exact ⟨false, rfl, q H3 s13⟩
    | true =>
      obtain ⟨z, h6, h7⟩ := bind1 h5
      refine ⟨γ, S0, S, z, E.same s13, h6, fun z' H4 s4 r4 => ?_⟩
      have s14 := s13.trans s4
      exact C'.ask (un S S0) H4 y z' w z t _ (E.same s14).dT (Rb.mv (.same (s3.trans s4)) r2 (s3.trans s4)) r4 h7 fun v H5 s5 r5 => ⟨t, r5, q H5 (s14.trans s5)⟩
end

/-! ### and, or, not; if-expressions -/
section
variable {fa fb : Γ → Option Bool} {rest : List Expr}
theorem pb_not (ha : PB X sl a fa) : PB X sl (.UnaryOp .Not a pos) (fun s => (fa s).bind fun x => some (!x)) := PT.imp (pt_not ha) fun σ H Q ⟨γ, S0, S, t, E, hf, q⟩ => by
  obtain ⟨x, h1, h2⟩ := bind1 hf
  cases h2
  exact ⟨γ, S0, S, x, E, h1, fun H' s => q H' s⟩
theorem pb_and1 (ha : PB X sl a fa) : PBw X sl (.BoolOp .And [a] pos) fa := pw_and1 ha
theorem pb_or1 (ha : PB X sl a fa) : PBw X sl (.BoolOp .Or [a] pos) fa := pw_or1 ha
theorem pb_and (ha : PB X sl a fa) (hb : PBw X sl (.BoolOp .And (b :: rest) pos) fb) : PBw X sl (.BoolOp .And (a :: b :: rest) pos) (fun s => (fa s).bind fun x => if x = true then fb s else some false) :=
  PW.imp (pw_and ha hb) fun σ H Q ⟨γ, S0, S, t, E, hf, q⟩ => by
    obtain ⟨x, h1, h2⟩ := bind1 hf
    refine ⟨γ, S0, S, x, E, h1, fun H1 s1 => ?_⟩
    cases x with
    | false => cases h2; exact q H1 s1
    | true => exact ⟨γ, S0, S, t, E.same s1, h2, fun H2 s2 => q H2 (s1.trans s2)⟩
theorem pb_or (ha : PB X sl a fa) (hb : PBw X sl (.BoolOp .Or (b :: rest) pos) fb) : PBw X sl (.BoolOp .Or (a :: b :: rest) pos) (fun s => (fa s).bind fun x => if x = true then some true else fb s) :=
  PW.imp (pw_or ha hb) fun σ H Q ⟨γ, S0, S, t, E, hf, q⟩ => by
    obtain ⟨x, h1, h2⟩ := bind1 hf
    refine ⟨γ, S0, S, x, E, h1, fun H1 s1 => ?_⟩
    cases x with
    | true => cases h2; exact q H1 s1
    | false => exact ⟨γ, S0, S, t, E.same s1, h2, fun H2 s2 => q H2 (s1.trans s2)⟩
theorem PBw.pb {f : Γ → Option Bool} (h : PBw X sl e f) : PB X sl e f := PW.pt h
theorem pv_one {op} (ha : PV X sl .a a fa) : PV X sl .a (.BoolOp op [a] pos) fa := pe_one ha
theorem pv_and (ha : PV X sl .a a fa) (hb : PV X sl .a (.BoolOp .And (b :: rest) pos) fb) : PV X sl .a (.BoolOp .And (a :: b :: rest) pos) (fun s => (fa s).bind fun x => if x = true then fb s else some false) :=
  PE.imp (pe_and ha hb) fun σ H Q ⟨γ, S0, S, t, E, hf, q⟩ => by
    obtain ⟨x, h1, h2⟩ := bind1 hf
    refine ⟨γ, S0, S, x, E, h1, fun v H1 s1 r1 => ⟨x, r1, ?_⟩⟩
    cases x with
    | false => cases h2; exact q _ H1 s1 rfl
    | true => exact ⟨γ, S0, S, t, E.same s1, h2, fun v H2 s2 r2 => q v H2 (s1.trans s2) r2⟩
theorem pv_or (ha : PV X sl .a a fa) (hb : PV X sl .a (.BoolOp .Or (b :: rest) pos) fb) : PV X sl .a (.BoolOp .Or (a :: b :: rest) pos) (fun s => (fa s).bind fun x => if x = true then some true else fb s) :=
  PE.imp (pe_or ha hb) fun σ H Q ⟨γ, S0, S, t, E, hf, q⟩ => by
    obtain ⟨x, h1, h2⟩ := bind1 hf
    refine ⟨γ, S0, S, x, E, h1, fun v H1 s1 r1 => ⟨x, r1, ?_⟩⟩
    cases x with
    | true => cases h2; exact q _ H1 s1 rfl
    | false => exact ⟨γ, S0, S, t, E.same s1, h2, fun v H2 s2 r2 => q v H2 (s1.trans s2) r2⟩
theorem pv_not (ha : PV X sl .a a fa) : PV X sl .a (.UnaryOp .Not a pos) (fun s => (fa s).bind fun x => some (!x)) := PE.imp (pe_not ha) fun σ H Q ⟨γ, S0, S, t, E, hf, q⟩ => by
  obtain ⟨x, h1, h2⟩ := bind1 hf
  cases h2
  exact ⟨γ, S0, S, x, E, h1, fun v H' s r => ⟨x, r, q _ H' s rfl⟩⟩
theorem pv_if [Enc τ] {fc : Γ → Option Bool} {f g : Γ → Option τ} (hc : PB X sl c fc) (ha : PV X sl k a f) (hb : PV X sl k b g) : PV X sl k (.IfExp c a b pos) (fun s => (fc s).bind fun x => if x = true then f s else g s) :=
  PE.imp (pe_ifExp hc ha hb) fun σ H Q ⟨γ, S0, S, t, E, hf, q⟩ => by
    obtain ⟨x, h1, h2⟩ := bind1 hf
    refine ⟨γ, S0, S, x, E, h1, fun H1 s1 => ?_⟩
    cases x with
    | true => exact ⟨γ, S0, S, t, E.same s1, h2, fun v H2 s2 r2 => q v H2 (s1.trans s2) (r2.back s1)⟩
    | false => exact ⟨γ, S0, S, t, E.same s1, h2, fun v H2 s2 r2 => q v H2 (s1.trans s2) (r2.back s1)⟩
end

/-! ### == of scalars, of data -/
class Sc (τ : Type) [Enc τ] where
  val : τ → V
  rp : ∀ {K : PySem.W.Frag} {H : Hp} {T : Ad} {t : τ} {v : V}, Rb K H T (enc t) v → v = val t
  sc : ∀ s t : τ, scal (val s) (val t) = true
  inj : ∀ s t : τ, val s = val t → s = t
instance : Sc Int := ⟨V.int, fun h => rb_int h, fun _ _ => rfl, fun _ _ e => V.int.inj e⟩
instance : Sc Bool := ⟨V.bl, fun h => rb_bool h, fun _ _ => rfl, fun _ _ e => V.bl.inj e⟩
instance : Sc Tx := ⟨fun t => V.str ⟨t.cs.toArray⟩, fun h => rb_str h, fun _ _ => rfl, fun s t e => by
  have e1 := V.str.inj e
  have e2 : s.cs.toArray = t.cs.toArray := congrArg Str.cps e1
  have e3 : s.cs = t.cs := by simpa using e2
  cases s; cases t; exact congrArg Tx.mk e3⟩
theorem sc_dec [Enc τ] [Sc τ] [DecidableEq τ] (s t : τ) : decide (Sc.val s = Sc.val t) = decide (s = t) := by
  by_cases h : s = t
  · subst h; simp
  · rw [decide_eq_false h, decide_eq_false fun q => h (Sc.inj s t q)]
def c_eqS [Enc τ] [Sc τ] [DecidableEq τ] : Cmp X .Eq τ τ (fun x y => some (decide (x = y))) := ⟨_, op_eq, fun T H x y u w t Q hT r1 r2 e q => by
  cases e
  rw [Sc.rp r1, Sc.rp r2]
  exact ⟨Sc.sc u w, q _ H (Same.refl H) (by rw [sc_dec]; rfl)⟩⟩
def c_neS [Enc τ] [Sc τ] [DecidableEq τ] : Cmp X .NotEq τ τ (fun x y => some (!decide (x = y))) := ⟨_, op_ne, fun T H x y u w t Q hT r1 r2 e q => by
  cases e
  rw [Sc.rp r1, Sc.rp r2]
  exact ⟨Sc.sc u w, q _ H (Same.refl H) (by rw [sc_dec]; rfl)⟩⟩
/-- what is never None -/
class NN (τ : Type) [Enc τ] : Prop where
  nn : ∀ t : τ, enc t ≠ .none
instance : NN Int := ⟨nofun⟩
instance : NN Bool := ⟨nofun⟩
instance : NN Tx := ⟨nofun⟩
instance [Enc α] : NN (List α) := ⟨nofun⟩
instance [Enc α] [Enc β] : NN (T2 α β) := ⟨nofun⟩
instance [Enc α] [Enc β] [Enc γ'] : NN (T3 α β γ') := ⟨nofun⟩
instance [Enc α] [Enc β] [Enc γ'] [Enc τ] : NN (T4 α β γ' τ) := ⟨nofun⟩
/-- data that == compares -/
class EqT (τ : Type) [Enc τ] [DecidableEq τ] where
  ok : τ → Bool
  dep : Nat
  dle : ∀ t : τ, (enc t).depth ≤ dep
  can : ∀ t : τ, ok t = true → (enc t).canLay0 = true
  eqv : ∀ s t : τ, PyData.eqv (enc s) (enc t) = decide (s = t)
instance : EqT Int := ⟨fun _ => true, 0, fun _ => Nat.le_refl _, fun _ _ => rfl, fun s t => by show PyData.eqv (.int s) (.int t) = _; unfold PyData.eqv; exact Bool.beq_eq_decide_eq s t⟩
instance : EqT Bool := ⟨fun _ => true, 0, fun _ => Nat.le_refl _, fun _ _ => rfl, fun s t => by show PyData.eqv (.bool s) (.bool t) = _; unfold PyData.eqv; exact Bool.beq_eq_decide_eq s t⟩
instance : EqT Tx := ⟨fun t => PyData.strOk ⟨t.cs.toArray⟩, 0, fun _ => Nat.le_refl _, fun _ h => h, fun s t => by
  show PyData.eqv (.str _) (.str _) = _
  unfold PyData.eqv
  rw [Bool.beq_eq_decide_eq]
  by_cases h : s = t
  · subst h; simp
  · rw [decide_eq_false h, decide_eq_false]
    intro q
    apply h
    have e2 : s.cs.toArray = t.cs.toArray := congrArg Str.cps q
    cases s; cases t
    simpa using e2⟩
theorem depthAll_le {n : Nat} : ∀ {ds : List PyData}, (∀ d ∈ ds, d.depth ≤ n) → PyData.depthAll ds ≤ n
  | [], _ => by unfold PyData.depthAll; exact Nat.zero_le _
  | d :: ds, h => by
    unfold PyData.depthAll
    exact Nat.max_le.mpr ⟨h d List.mem_cons_self, depthAll_le fun x hx => h x (List.mem_cons_of_mem _ hx)⟩
theorem canAll_of : ∀ {ds : List PyData}, (∀ d ∈ ds, d.canLay0 = true) → PyData.canLayAll0 ds = true
  | [], _ => rfl
  | d :: ds, h => by
    unfold PyData.canLayAll0
    rw [h d List.mem_cons_self, canAll_of fun x hx => h x (List.mem_cons_of_mem _ hx)]
    rfl
section
variable [Enc α] [DecidableEq α] [EqT α] [Enc β] [DecidableEq β] [EqT β] [Enc γ'] [DecidableEq γ'] [EqT γ']
theorem eqvAll_of : ∀ xs ys : List α, PyData.eqvAll (xs.map enc) (ys.map enc) = decide (xs = ys)
  | [], [] => by simp [PyData.eqvAll]
  | [], _ :: _ => by simp [PyData.eqvAll]
  | _ :: _, [] => by simp [PyData.eqvAll]
  | x :: xs, y :: ys => by
    rw [List.map_cons, List.map_cons, PyData.eqvAll, EqT.eqv, eqvAll_of xs ys]
    simp
instance : EqT (List α) := ⟨fun t => t.all EqT.ok, EqT.dep α + 1, fun t => by
  show PyData.depth (.list (t.map enc)) ≤ _
  unfold PyData.depth
  refine Nat.succ_le_succ (depthAll_le fun d hd => ?_)
  obtain ⟨x, _, rfl⟩ := List.mem_map.mp hd
  exact EqT.dle x, fun t h => by
  show PyData.canLay0 (.list (t.map enc)) = true
  unfold PyData.canLay0
  refine canAll_of fun d hd => ?_
  obtain ⟨x, hx, rfl⟩ := List.mem_map.mp hd
  exact EqT.can x (List.all_eq_true.mp h x hx), fun s t => by
  show PyData.eqv (.list (s.map enc)) (.list (t.map enc)) = _
  unfold PyData.eqv
  exact eqvAll_of s t⟩
theorem eqv_none {d : PyData} (h : d ≠ .none) : PyData.eqv .none d = false ∧ PyData.eqv d .none = false := by
  cases d with
  | none => exact absurd rfl h
  | bool _ => simp [PyData.eqv]
  | int _ => simp [PyData.eqv]
  | str _ => simp [PyData.eqv]
  | list _ => simp [PyData.eqv]
  | tuple _ => simp [PyData.eqv]
  | dict _ => simp [PyData.eqv]
instance [NN α] : EqT (Option α) := ⟨fun t => match t with | none => true | some t => EqT.ok t, EqT.dep α, fun t => match t with
  | none => Nat.zero_le _
  | some t => EqT.dle t, fun t h => match t, h with
  | none, _ => rfl
  | some t, h => EqT.can t h, fun s t => match s, t with
  | none, none => by simp; rfl
  | none, some t => by simp; exact (eqv_none (NN.nn t)).1
  | some s, none => by simp; exact (eqv_none (NN.nn s)).2
  | some s, some t => by
    have e := EqT.eqv s t
    by_cases h : s = t
    · subst h; simp at e ⊢; exact e
    · simp [h] at e ⊢; exact e⟩
instance : EqT (T2 α β) := ⟨fun t => EqT.ok t.a && EqT.ok t.b, max (EqT.dep α) (EqT.dep β) + 1, fun t => by
  show PyData.depth (.tuple [enc t.a, enc t.b]) ≤ _
  have h1 := EqT.dle t.a
  have h2 := EqT.dle t.b
  simp only [PyData.depth, PyData.depthAll]
  omega, fun t h => by
  show PyData.canLay0 (.tuple [enc t.a, enc t.b]) = true
  simp only [Bool.and_eq_true] at h
  simp [PyData.canLay0, PyData.canLayAll0, EqT.can t.a h.1, EqT.can t.b h.2], fun s t => by
  show PyData.eqv (.tuple [enc s.a, enc s.b]) (.tuple [enc t.a, enc t.b]) = _
  simp only [PyData.eqv, PyData.eqvAll, EqT.eqv]
  cases s; cases t; simp⟩
instance : EqT (T3 α β γ') := ⟨fun t => EqT.ok t.a && (EqT.ok t.b && EqT.ok t.c), max (EqT.dep α) (max (EqT.dep β) (EqT.dep γ')) + 1, fun t => by
  show PyData.depth (.tuple [enc t.a, enc t.b, enc t.c]) ≤ _
  have h1 := EqT.dle t.a
  have h2 := EqT.dle t.b
  have h3 := EqT.dle t.c
  simp only [PyData.depth, PyData.depthAll]
  omega, fun t h => by
  show PyData.canLay0 (.tuple [enc t.a, enc t.b, enc t.c]) = true
  simp only [Bool.and_eq_true] at h
  simp [PyData.canLay0, PyData.canLayAll0, EqT.can t.a h.1, EqT.can t.b h.2.1, EqT.can t.c h.2.2], fun s t => by
  show PyData.eqv (.tuple [enc s.a, enc s.b, enc s.c]) (.tuple [enc t.a, enc t.b, enc t.c]) = _
  simp only [PyData.eqv, PyData.eqvAll, EqT.eqv]
  cases s; cases t; simp⟩
end
instance [Enc α] [DecidableEq α] [EqT α] [Enc β] [DecidableEq β] [EqT β] [Enc γ'] [DecidableEq γ'] [EqT γ'] [Enc τ] [DecidableEq τ] [EqT τ] : EqT (T4 α β γ' τ) := ⟨fun t => EqT.ok t.a && (EqT.ok t.b && (EqT.ok t.c && EqT.ok t.d)), max (EqT.dep α) (max (EqT.dep β) (max (EqT.dep γ') (EqT.dep τ))) + 1, fun t => by
  show PyData.depth (.tuple [enc t.a, enc t.b, enc t.c, enc t.d]) ≤ _
  have h1 := EqT.dle t.a
  have h2 := EqT.dle t.b
  have h3 := EqT.dle t.c
  have h4 := EqT.dle t.d
  simp only [PyData.depth, PyData.depthAll]
  omega, fun t h => by
  show PyData.canLay0 (.tuple [enc t.a, enc t.b, enc t.c, enc t.d]) = true
  simp only [Bool.and_eq_true] at h
  simp [PyData.canLay0, PyData.canLayAll0, EqT.can t.a h.1, EqT.can t.b h.2.1, EqT.can t.c h.2.2.1, EqT.can t.d h.2.2.2], fun s t => by
  show PyData.eqv (.tuple [enc s.a, enc s.b, enc s.c, enc s.d]) (.tuple [enc t.a, enc t.b, enc t.c, enc t.d]) = _
  simp only [PyData.eqv, PyData.eqvAll, EqT.eqv]
  cases s; cases t; simp⟩

theorem Rb.dp {K : PySem.W.Frag} {H : Hp} {T : Ad} {d : PyData} {v : V} (h : Rb K H T d v) (n : PyData.hasDict d = false) : Dp K H v d := by
  rcases h with h | ⟨ds, a, xs, rfl, rfl, h1, h2⟩ | ⟨kvs, _, _, rfl, _⟩
  · exact Rp.dp d v h (by rintro kvs rfl; simp [PyData.hasDict] at n) n
  · exact .lst (.inl h1) (RpA.dp ds xs h2 (by simpa [PyData.hasDict] using n))
  · simp [PyData.hasDict] at n
section
variable [Enc τ] [DecidableEq τ] [EqT τ]
theorem shaped_of {t : τ} (h : EqT.ok t = true) (hd : EqT.dep τ ≤ 64) : SeqAt.shaped (enc t) = true := by
  unfold SeqAt.shaped
  rw [EqT.can t h, decide_eq_true (Nat.le_trans (EqT.dle t) hd)]
  rfl
def dEq (x y : τ) : Option Bool := if EqT.ok x = true ∧ EqT.ok y = true then some (decide (x = y)) else none
def dNe (x y : τ) : Option Bool := if EqT.ok x = true ∧ EqT.ok y = true then some (!decide (x = y)) else none
def c_eqD (hu : X.A.units + 64 < cLine) (hd : EqT.dep τ ≤ 64 := by decide) : Cmp X .Eq τ τ (fun x y => dEq x y) := ⟨_, op_eqD hu, fun T H x y u w t Q hT r1 r2 e q => by
  obtain ⟨⟨h1, h2⟩, rfl⟩ := if_some e
  refine ⟨enc u, enc w, r1.dp (PyData.hasDict_of_canLay _ (EqT.can u h1)), r2.dp (PyData.hasDict_of_canLay _ (EqT.can w h2)), shaped_of h1 hd, shaped_of h2 hd, q _ H (Same.refl H) ?_⟩
  rw [EqT.eqv]; rfl⟩
def c_neD (hu : X.A.units + 64 < cLine) (hd : EqT.dep τ ≤ 64 := by decide) : Cmp X .NotEq τ τ (fun x y => dNe x y) := ⟨_, op_neD hu, fun T H x y u w t Q hT r1 r2 e q => by
  obtain ⟨⟨h1, h2⟩, rfl⟩ := if_some e
  refine ⟨enc u, enc w, r1.dp (PyData.hasDict_of_canLay _ (EqT.can u h1)), r2.dp (PyData.hasDict_of_canLay _ (EqT.can w h2)), shaped_of h1 hd, shaped_of h2 hd, q _ H (Same.refl H) ?_⟩
  rw [EqT.eqv]; rfl⟩
end
/-! ### is None -/
theorem rb_non {K : PySem.W.Frag} {H : Hp} {T : Ad} {d : PyData} (h : Rb K H T d .non) : d = .none := by
  rcases h with h | ⟨_, _, _, _, e, _⟩ | ⟨_, _, _, _, e, _⟩
  · cases d with
    | none => rfl
    | bool b => cases (show V.non = .bl b from h)
    | int b => cases (show V.non = .int b from h)
    | str b => cases (show V.non = .str b from h)
    | list b => obtain ⟨_, _, e, _⟩ := h; cases e
    | tuple b => obtain ⟨_, _, e, _⟩ := h; cases e
    | dict b => obtain ⟨_, _, e, _⟩ := h; cases e
  · cases e
  · cases e
section
variable [Enc τ] [NN τ] {f : Γ → Option (Option τ)}
theorem isN_dec {K : PySem.W.Frag} {H : Hp} {T : Ad} {t : Option τ} {v : V} (h : Rb K H T (enc t) v) : decide (v = .non) = t.isNone := by
  cases t with
  | none => rw [rb_none h]; rfl
  | some t =>
    refine decide_eq_false fun e => ?_
    subst e
    exact NN.nn t (rb_non h)
def c_is : Cmp X .Is (Option τ) Unit (fun x _ => some x.isNone) := ⟨_, op_isN, fun T H x y u w t Q hT r1 r2 e q => by
  cases e
  exact ⟨rb_none r2, q _ H (Same.refl H) (by rw [isN_dec r1]; rfl)⟩⟩
def c_isnt : Cmp X .IsNot (Option τ) Unit (fun x _ => some (!x.isNone)) := ⟨_, op_notN, fun T H x y u w t Q hT r1 r2 e q => by
  cases e
  exact ⟨rb_none r2, q _ H (Same.refl H) (by rw [isN_dec r1]; rfl)⟩⟩
end
end PL

/-! PL4: lists, tuples, texts, known functions. -/
namespace PL
open PySem PySem.Spec L2
open Enc (enc)

variable {Γ Γ' ρ τ α β γ' δ : Type} {X : Cx} {sl : Γ → Sl} {e a b c : Expr} {k k1 k2 k3 : Kd} {pos : Pos}

/-! ### what a value is, by its type -/
section
variable {K : PySem.W.Frag} {H : Hp} {T : Ad} {v : V}
theorem rb_l [Enc τ] {t : List τ} (h : Rb K H T (enc t) v) : ∃ a xs, v = .ref a ∧ SqL K H a xs ∧ RpA K H T (t.map enc) xs := rb_list h
theorem rb_i {t : Int} (h : Rb K H T (enc t) v) : v = .int t := rb_int h
theorem rb_t {t : Tx} (h : Rb K H T (enc t) v) : v = .str ⟨t.cs.toArray⟩ := rb_str h
/-- a new list -/
theorem fr_new [Enc τ] {t : List τ} {p : Addr} {xs : List V} (hT : ∀ a, T a → H a ≠ none) (hp : H p = none) (h : RpA K H T (t.map enc) xs) : RK .f K H (upd H p (.lst xs)) T (enc t) (.ref p) := by
  refine ⟨p, rfl, hp, .inl ⟨_, xs, rfl, upd_same, h.mv fun a o e n => ?_⟩⟩
  have ne := ne_of_none e hp
  exact ⟨by rw [upd_ne ne]; exact e, fun z => z.elim n ne⟩
theorem same_new {p : Addr} {o : HO} (h : H p = none) : Same H (upd H p o) := fun b x e => by
  rw [upd_ne (ne_of_none e h)]
  exact e
theorem rp_newT {ds : List PyData} {p : Addr} {xs : List V} (hT : ∀ a, T a → H a ≠ none) (hp : H p = none) (h : RpA K H T ds xs) : Rp K (upd H p (.tup xs)) T (.tuple ds) (.ref p) :=
  ⟨p, xs, rfl, .inl ⟨.inl upd_same, fun z => hT p z hp⟩, h.mv (.same (same_new hp))⟩
theorem map_len [Enc τ] {t : List τ} {xs : List V} (h : RpA K H T (t.map enc) xs) : xs.length = t.length := by rw [h.length, List.length_map]
theorem map_get [Enc τ] {t : List τ} {xs : List V} {i : Nat} {d : τ} (h : RpA K H T (t.map enc) xs) (e : t[i]? = some d) : ∃ v, xs[i]? = some v ∧ Rp K H T (enc d) v :=
  h.get (by rw [List.getElem?_map, e]; rfl)
theorem rpa_at {ds : List PyData} {xs : List V} {i : Int} {d : PyData} (h : RpA K H T ds xs) (e : atI ds i = some d) : ∃ v, atI xs i = some v ∧ Rp K H T d v := by
  unfold atI at e ⊢
  rw [h.length]
  obtain ⟨j, h1, h2⟩ := bind1 e
  obtain ⟨v, h3, h4⟩ := h.get h2
  exact ⟨v, by rw [h1]; exact h3, h4⟩
theorem map_at [Enc τ] {t : List τ} {xs : List V} {i : Int} {d : τ} (h : RpA K H T (t.map enc) xs) (e : atI t i = some d) : ∃ v, atI xs i = some v ∧ Rp K H T (enc d) v := by
  unfold atI at e ⊢
  rw [map_len h]
  obtain ⟨j, h1, h2⟩ := bind1 e
  obtain ⟨v, h3, h4⟩ := map_get h h2
  exact ⟨v, by rw [h1]; exact h3, h4⟩
end

/-! ### subscripts -/
theorem pv_ix [Enc τ] {fa : Γ → Option (List τ)} {fb : Γ → Option Int} (ha : PV X sl .b a fa) (hb : PV X sl .b b fb) (hx : PlainIx b := by exact fun _ _ => rfl) : PV X sl .a (.Subscript a b pos) (fun s => (fa s).bind fun x => (fb s).bind fun i => atI x i) :=
  pv_2 (fun h1 h2 => pe_ix ix_list h1 h2 hx) (fun T H x y u w t Q hT r1 r2 e q => by
    obtain ⟨p, xs, rfl, h1, h2⟩ := rb_l r1
    obtain ⟨v, h3, h4⟩ := map_at h2 e
    exact ⟨p, xs, w, v, rfl, rb_i r2, h1, h3, q v H (Same.refl H) h4⟩) ha hb
/-- t[j] of a tuple -/
theorem pv_ixT [Enc τ] [Enc β] {fa : Γ → Option τ} {i : Int} {j0 : Nat} {p0 : Pos} (ds : τ → List PyData) (p : τ → β) (hd : ∀ t, enc t = .tuple (ds t)) (hi : ∀ t, atI (ds t) i = some (enc (p t))) (ha : PV X sl .b a fa) :
    PV X sl .a (.Subscript a (.Constant (.int i) j0 p0) pos) (fun s => (fa s).bind fun x => some (p x)) := by
  refine PV.eq (f := fun s => (fa s).bind fun x => (some i : Option Int).bind fun w => if w = i then some (p x) else none) ?_ (by funext s; cases fa s <;> simp)
  exact pv_2 (fb := fun _ => some i) (g := fun x w => if w = i then some (p x) else none) (fun h1 h2 => pe_ix ix_tup h1 h2 (fun _ _ => rfl)) (fun T H x y u w t Q hT r1 r2 e q => by
    obtain ⟨rfl, rfl⟩ := if_some e
    rw [hd u] at r1
    obtain ⟨a, xs, rfl, h1, h2⟩ := rb_tup r1
    obtain ⟨v, h3, h4⟩ := rpa_at h2 (hi u)
    exact ⟨a, xs, w, v, rfl, rb_i r2, h1, h3, q v H (Same.refl H) h4⟩) ha pv_int.ab
def sIx (t : Tx) (i : Int) : Option Tx := if t.cs.length ≤ sizeLine then (atI t.cs i).map fun c => ⟨[c]⟩ else none
theorem pv_ixS {fa : Γ → Option Tx} {fb : Γ → Option Int} (ha : PV X sl .b a fa) (hb : PV X sl .b b fb) (hx : PlainIx b := by exact fun _ _ => rfl) : PV X sl .a (.Subscript a b pos) (fun s => (fa s).bind fun x => (fb s).bind fun i => sIx x i) :=
  pv_2 (fun h1 h2 => pe_ix ix_str h1 h2 hx) (fun T H x y u w t Q hT r1 r2 e q => by
    unfold sIx at e
    by_cases hz : u.cs.length ≤ sizeLine
    · rw [if_pos hz] at e
      cases h : atI u.cs w with
      | none => rw [h] at e; cases e
      | some c =>
        rw [h] at e
        cases e
        exact ⟨_, w, c, rb_t r1, rb_i r2, hz, h, q _ H (Same.refl H) rfl⟩
    · rw [if_neg hz] at e; cases e) ha hb

/-! ### slices -/
def cut (xs : List τ) (lo hi : Option Int) : List τ := (xs.drop (HT.sIx xs.length 0 lo)).take (HT.sIx xs.length xs.length hi - HT.sIx xs.length 0 lo)
def tOo (K : PySem.W.Frag) (sl : Γ → Sl) (f : Γ → Option (Option Int)) : TO := fun σ H Q =>
  ∃ (g : Γ) (S0 S : Ad) (t : Option Int), EnvS K S0 S H (sl g) σ ∧ f g = some t ∧ ∀ H', Same H H' → Q t H'
def PVo (X : Cx) (sl : Γ → Sl) (e : Option Expr) (f : Γ → Option (Option Int)) : Prop := PO X e (tOo X.K sl f)
theorem pvo_none : PVo X sl none (fun _ => some none) := PO.imp po_none fun σ H Q ⟨g, S0, S, t, E, hf, q⟩ => by
  cases hf
  exact q H (Same.refl H)
theorem pvo_some {f : Γ → Option Int} (h : PV X sl .b e f) : PVo X sl (some e) (fun s => (f s).bind fun i => some (some i)) := PO.imp (po_some h) fun σ H Q ⟨g, S0, S, t, E, hf, q⟩ => by
  obtain ⟨i, h1, h2⟩ := bind1 hf
  cases h2
  exact ⟨g, S0, S, i, E, h1, fun v H' s r => ⟨i, rb_i r, q H' s⟩⟩
theorem cut_rp [Enc τ] {K : PySem.W.Frag} {H : Hp} {T : Ad} {t : List τ} {xs : List V} {lo hi : Option Int} (h : RpA K H T (t.map enc) xs) : RpA K H T ((cut t lo hi).map enc) (cutV xs lo hi) := by
  unfold cut cutV
  rw [map_len h, List.map_take, List.map_drop]
  exact RpA.take _ (RpA.drop _ h)
section
variable {lo hi : Option Expr} {fl fh : Γ → Option (Option Int)} {p2 : Pos}
theorem pv_sl [Enc τ] {fa : Γ → Option (List τ)} (ha : PV X sl .b a fa) (hl : PVo X sl lo fl) (hh : PVo X sl hi fh) : PV X sl .f (.Subscript a (.Slice lo hi none p2) pos) (fun s => (fa s).bind fun x => (fl s).bind fun i => (fh s).bind fun j => some (cut x i j)) :=
  PE.imp (pe_slice sl_list ha hl hh) fun σ H Q ⟨g, S0, S, t, E, hf, q⟩ => by
    obtain ⟨x, i, h1, h2, h3⟩ := bind2 hf
    obtain ⟨j, h4, h5⟩ := bind1 h3
    cases h5
    refine ⟨g, S0, S, x, E, h1, fun v H1 s1 r1 => ⟨g, S0, S, i, E.same s1, h2, fun H2 s2 => ⟨g, S0, S, j, (E.same s1).same s2, h4, fun H3 s3 => ?_⟩⟩⟩
    have s23 := s2.trans s3
    obtain ⟨p, xs, rfl, h6, h7⟩ := rb_l (Rb.mv (.same s23) r1 s23)
    have s13 := s1.trans s23
    refine ⟨p, xs, rfl, h6, fun r hr => ?_⟩
    exact q _ _ (s13.trans (same_new hr)) ((fr_new (E.same s13).dT hr (cut_rp h7)).back s13)
def cutT (t : Tx) (lo hi : Option Int) : Option Tx := if t.cs.length ≤ sizeLine then some ⟨cut t.cs lo hi⟩ else none
theorem pv_slS {fa : Γ → Option Tx} (ha : PV X sl .b a fa) (hl : PVo X sl lo fl) (hh : PVo X sl hi fh) : PV X sl .a (.Subscript a (.Slice lo hi none p2) pos) (fun s => (fa s).bind fun x => (fl s).bind fun i => (fh s).bind fun j => cutT x i j) :=
  PE.imp (pe_slice sl_str ha hl hh) fun σ H Q ⟨g, S0, S, t, E, hf, q⟩ => by
    obtain ⟨x, i, h1, h2, h3⟩ := bind2 hf
    obtain ⟨j, h4, h5⟩ := bind1 h3
    obtain ⟨hz, rfl⟩ := if_some h5
    refine ⟨g, S0, S, x, E, h1, fun v H1 s1 r1 => ⟨g, S0, S, i, E.same s1, h2, fun H2 s2 => ⟨g, S0, S, j, (E.same s1).same s2, h4, fun H3 s3 => ?_⟩⟩⟩
    exact ⟨_, rb_t r1, hz, q _ _ (s1.trans (s2.trans s3)) rfl⟩
theorem pv_rev [Enc τ] {fa : Γ → Option (List τ)} {k0 : Nat} {p1 p2 p3 : Pos} (ha : PV X sl .b a fa) : PV X sl .f (.Subscript a (.Slice none none (some (.UnaryOp .USub (.Constant (.int 1) k0 p1) p2)) p3) pos) (fun s => (fa s).bind fun x => some x.reverse) :=
  PE.imp (pe_revL ha) fun σ H Q ⟨g, S0, S, t, E, hf, q⟩ => by
    obtain ⟨x, h1, h2⟩ := bind1 hf
    cases h2
    refine ⟨g, S0, S, x, E, h1, fun v H1 s1 r1 => ?_⟩
    obtain ⟨p, xs, rfl, h6, h7⟩ := rb_l r1
    refine ⟨p, xs, rfl, h6, fun r hr => ?_⟩
    exact q _ _ (s1.trans (same_new hr)) ((fr_new (E.same s1).dT hr (by rw [List.map_reverse]; exact h7.rev)).back s1)
end

/-! ### list + list, text + text -/
def rCatQ (K : PySem.W.Frag) : R2 := fun x y H Q => ∃ l b xs zs, x = .ref l ∧ y = .ref b ∧ SqL K H l xs ∧ SqL K H b zs ∧ xs.length + zs.length ≤ sizeLine ∧ ∀ p, H p = none → Q (.ref p) (upd H p (.lst (xs ++ zs)))
theorem op_catQ : OpR X (binaryOp .Add) (rCatQ X.K) := by
  intro pins s σ H x y v u Q I rx ry h
  obtain ⟨l, m, xs, zs, rfl, rfl, h1, h2, hz, q⟩ := h
  cases rx; cases ry
  obtain ⟨its, r, ⟨o, n, ho, hc, _, hd⟩, _⟩ := I.list h1
  obtain ⟨its2, r2, ⟨o2, n2, ho2, hc2, _, hd2⟩, _⟩ := I.list h2
  obtain ⟨c1, d1, t1, w1⟩ := o
  obtain ⟨c2, d2, t2, w2⟩ := o2
  simp only at hc hd hc2 hd2
  subst hc hd hc2 hd2
  have hs : its.toArray.size + its2.toArray.size ≤ sizeLine := by
    rw [List.size_toArray, List.size_toArray, ← r.length, ← r2.length]; exact hz
  have G := PyProof.Rows.list_addW l m its.toArray its2.toArray n n2 d1 d2 w1 w2 hs
  refine concat_meets ⟨_, ho, rfl⟩ ⟨_, ho2, rfl⟩ noFill_list_add seq_list_add PySem.F.slot_list_add PySem.F.entry_list_add (PySem.F.args_list_add_2 _ _) G ⟨ho, ho2, ?_⟩
  have ea : its.toArray ++ its2.toArray = (its ++ its2).toArray := by simp
  rw [ea]
  exact ⟨.ref _, _, I.lnew (t' := s.toks) (r.append r2) (by rw [List.length_append]; exact hz), rfl, q _ I.fresh⟩
def lCat (x y : List τ) : Option (List τ) := if x.length + y.length ≤ sizeLine then some (x ++ y) else none
theorem pv_cat [Enc τ] {fa fb : Γ → Option (List τ)} (ha : PV X sl .b a fa) (hb : PV X sl .b b fb) : PV X sl .f (.BinOp a .Add b pos) (fun s => (fa s).bind fun x => (fb s).bind fun y => lCat x y) :=
  pv_2 (pe_op op_catQ) (fun T H x y u w t Q hT r1 r2 e q => by
    obtain ⟨hz, rfl⟩ := if_some e
    obtain ⟨p, xs, rfl, h1, h2⟩ := rb_l r1
    obtain ⟨p', xs', rfl, h1', h2'⟩ := rb_l r2
    refine ⟨p, p', xs, xs', rfl, rfl, h1, h1', by rw [map_len h2, map_len h2']; exact hz, fun r hr => ?_⟩
    exact q _ _ (same_new hr) (fr_new hT hr (by rw [List.map_append]; exact h2.append h2'))) ha hb
def tCat (x y : Tx) : Option Tx := if x.cs.length + y.cs.length ≤ sizeLine then some ⟨x.cs ++ y.cs⟩ else none
theorem str_app (x y : List Nat) : ((⟨x.toArray⟩ : Str) ++ (⟨y.toArray⟩ : Str)) = ⟨(x ++ y).toArray⟩ := by
  show Str.mk _ = _
  congr 1
  simp
theorem pv_catS {fa fb : Γ → Option Tx} (ha : PV X sl .b a fa) (hb : PV X sl .b b fb) : PV X sl .a (.BinOp a .Add b pos) (fun s => (fa s).bind fun x => (fb s).bind fun y => tCat x y) :=
  pv_2 (pe_op op_add_str) (fun T H x y u w t Q hT r1 r2 e q => by
    obtain ⟨hz, rfl⟩ := if_some e
    exact ⟨_, _, rb_t r1, rb_t r2, hz, q _ H (Same.refl H) (by rw [str_app]; rfl)⟩) ha hb

/-! ### known functions -/
section
variable {x : Str} {p : Pos} {fa fb : Γ → Option Int}
theorem pv_len [Enc τ] {fa : Γ → Option (List τ)} (hg : Gl X "len") (hm : X.mg "len" = none) (ha : PV X sl .b a fa) (he : starEach [a] X.env = (false, eval a X.env) :: starEach [] X.env := by rfl) :
    PV X sl .a (.Call (.Name "len" p) [a] [] pos) (fun s => (fa s).bind fun x => some (x.length : Int)) :=
  pv_c1 (fun h => pe_callB call_len_seq hg hm PySem.boot_len (pa_cons h pa_nil he) (he := he)) (fun T H x u t Q hT r e q => by
    cases e
    obtain ⟨p, xs, rfl, h1, h2⟩ := rb_l r
    exact ⟨p, xs, rfl, .inl h1, q _ H (Same.refl H) (by rw [map_len h2]; rfl)⟩) ha
end
end PL

/-! PL5: displays, known functions. -/
namespace PL
open PySem PySem.Spec L2
open Enc (enc)

variable {Γ Γ' ρ τ α β γ' δ : Type} {X : Cx} {sl : Γ → Sl} {e a b c d : Expr} {es : List Expr} {k k1 k2 k3 : Kd} {pos : Pos}

/-! ### displays -/
def tAl [Enc τ] (K : PySem.W.Frag) (sl : Γ → Sl) (f : Γ → Option (List τ)) : TA := fun σ H Q =>
  ∃ (g : Γ) (S0 S : Ad) (t : List τ), EnvS K S0 S H (sl g) σ ∧ f g = some t ∧ ∀ vs H', Same H H' → RpA K H' (un S S0) (t.map enc) vs → Q vs H'
def PAl [Enc τ] (X : Cx) (sl : Γ → Sl) (n : Nat) (es : List Expr) (f : Γ → Option (List τ)) : Prop := PA X es (tAl X.K sl f) ∧ ∀ s t, f s = some t → t.length ≤ n
def PAs [Enc τ] (X : Cx) (sl : Γ → Sl) (es : List Expr) (f : Γ → Option (List τ)) : Prop := PA X es (tAl X.K sl f)
theorem pas_nil [Enc τ] : PAs X sl [] (fun _ => some ([] : List τ)) := PA.imp pa_nil fun σ H Q ⟨g, S0, S, t, E, hf, q⟩ => by
  cases hf
  exact q [] H (Same.refl H) rfl
theorem pas_cons [Enc τ] {f : Γ → Option τ} {g : Γ → Option (List τ)} (h : PV X sl .a e f) (hr : PAs X sl es g) (hs : starEach (e :: es) X.env = (false, eval e X.env) :: starEach es X.env := by rfl) :
    PAs X sl (e :: es) (fun s => (f s).bind fun x => (g s).bind fun r => some (x :: r)) := PA.imp (pa_cons h hr hs) fun σ H Q ⟨γ, S0, S, t, E, hf, q⟩ => by
  obtain ⟨x, r, h1, h2, h3⟩ := bind2 hf
  cases h3
  refine ⟨γ, S0, S, x, E, h1, fun v H1 s1 r1 => ⟨γ, S0, S, r, E.same s1, h2, fun vs H2 s2 r2 => ?_⟩⟩
  exact q _ H2 (s1.trans s2) ⟨v, vs, rfl, Rp.mv (.same s2) _ v r1, r2⟩
theorem pas_star [Enc τ] {f : Γ → Option (List τ)} {g : Γ → Option (List τ)} {p : Pos} (h : PV X sl .b e f) (hr : PAs X sl es g) (hs : starEach (.Starred e p :: es) X.env = (true, eval e X.env) :: starEach es X.env := by rfl) :
    PAs X sl (.Starred e p :: es) (fun s => (f s).bind fun x => (g s).bind fun r => some (x ++ r)) := PA.imp (StX.pa_star h hr hs) fun σ H Q ⟨γ, S0, S, t, E, hf, q⟩ => by
  obtain ⟨x, r, h1, h2, h3⟩ := bind2 hf
  cases h3
  refine ⟨γ, S0, S, x, E, h1, fun v H1 s1 r1 => ?_⟩
  obtain ⟨p, xs, rfl, h4, h5⟩ := rb_l r1
  refine ⟨p, xs, rfl, .inr h4, γ, S0, S, r, E.same s1, h2, fun vs H2 s2 r2 => ?_⟩
  exact q _ H2 (s1.trans s2) (by rw [List.map_append]; exact (h5.mv (.same s2)).append r2)
theorem pal_nil [Enc τ] : PAl X sl 0 [] (fun _ => some ([] : List τ)) := ⟨pas_nil, fun s t h => by cases h; exact Nat.le_refl _⟩
theorem pal_cons [Enc τ] {n : Nat} {f : Γ → Option τ} {g : Γ → Option (List τ)} (h : PV X sl .a e f) (hr : PAl X sl n es g) (hs : starEach (e :: es) X.env = (false, eval e X.env) :: starEach es X.env := by rfl) :
    PAl X sl (n + 1) (e :: es) (fun s => (f s).bind fun x => (g s).bind fun r => some (x :: r)) := ⟨pas_cons h hr.1 hs, fun s t hf => by
  obtain ⟨x, r, h1, h2, h3⟩ := bind2 hf
  cases h3
  exact Nat.succ_le_succ (hr.2 s r h2)⟩
def lNew (t : List τ) : Option (List τ) := if t.length ≤ sizeLine then some t else none
theorem pv_lstS [Enc τ] {f : Γ → Option (List τ)} (h : PAs X sl es f) : PV X sl .f (.List es pos) (fun s => (f s).bind fun x => lNew x) := PE.imp (pe_lst h) fun σ H Q ⟨γ, S0, S, t, E, hf, q⟩ => by
  obtain ⟨x, h1, h2⟩ := bind1 hf
  obtain ⟨hz, rfl⟩ := if_some h2
  refine ⟨γ, S0, S, x, E, h1, fun vs H1 s1 r1 => ⟨by rw [map_len r1]; exact hz, fun p hp => ?_⟩⟩
  exact q _ _ (s1.trans (same_new hp)) ((fr_new (E.same s1).dT hp r1).back s1)
theorem pv_lst [Enc τ] {n : Nat} {f : Γ → Option (List τ)} (h : PAl X sl n es f) (hn : n ≤ sizeLine := by decide) : PV X sl .f (.List es pos) f := PE.imp (pe_lst h.1) fun σ H Q ⟨γ, S0, S, t, E, hf, q⟩ => by
  refine ⟨γ, S0, S, t, E, hf, fun vs H1 s1 r1 => ⟨by rw [map_len r1]; exact Nat.le_trans (h.2 _ _ hf) hn, fun p hp => ?_⟩⟩
  exact q _ _ (s1.trans (same_new hp)) ((fr_new (E.same s1).dT hp r1).back s1)
section
variable [Enc α] [Enc β] [Enc γ'] [Enc δ] {fa : Γ → Option α} {fb : Γ → Option β} {fc : Γ → Option γ'} {fd : Γ → Option δ}
theorem pv_tup2 {x1} (ha : PV X sl .a a fa) (hb : PV X sl .a b fb) (h1 : starEach [a, b] X.env = (false, eval a X.env) :: starEach [b] X.env := by rfl) (h2 : starEach [b] X.env = (false, eval b X.env) :: starEach [] X.env := by rfl) :
    PV X sl .a (.Tuple [a, b] x1 pos) (fun s => (fa s).bind fun x => (fb s).bind fun y => some (T2.mk x y)) := PE.imp (pe_tup (pa_cons ha (pa_cons hb pa_nil h2) h1)) fun σ H Q ⟨γ, S0, S, t, E, hf, q⟩ => by
  obtain ⟨x, y, e1, e2, e3⟩ := bind2 hf
  cases e3
  refine ⟨γ, S0, S, x, E, e1, fun v H1 s1 r1 => ⟨γ, S0, S, y, E.same s1, e2, fun w H2 s2 r2 => ⟨by show 2 ≤ sizeLine; decide, fun p hp => ?_⟩⟩⟩
  have s12 := s1.trans s2
  exact q _ _ (s12.trans (same_new hp)) (rp_newT (E.same s12).dT hp ⟨v, [w], rfl, Rp.mv (.same s2) _ v r1, .one r2⟩)
theorem pv_tup3 {x1} (ha : PV X sl .a a fa) (hb : PV X sl .a b fb) (hc : PV X sl .a c fc) (h1 : starEach [a, b, c] X.env = (false, eval a X.env) :: starEach [b, c] X.env := by rfl) (h2 : starEach [b, c] X.env = (false, eval b X.env) :: starEach [c] X.env := by rfl) (h3 : starEach [c] X.env = (false, eval c X.env) :: starEach [] X.env := by rfl) :
    PV X sl .a (.Tuple [a, b, c] x1 pos) (fun s => (fa s).bind fun x => (fb s).bind fun y => (fc s).bind fun z => some (T3.mk x y z)) := PE.imp (pe_tup (pa_cons ha (pa_cons hb (pa_cons hc pa_nil h3) h2) h1)) fun σ H Q ⟨γ, S0, S, t, E, hf, q⟩ => by
  obtain ⟨x, y, e1, e2, e3⟩ := bind2 hf
  obtain ⟨z, e4, e5⟩ := bind1 e3
  cases e5
  refine ⟨γ, S0, S, x, E, e1, fun v H1 s1 r1 => ⟨γ, S0, S, y, E.same s1, e2, fun w H2 s2 r2 => ⟨γ, S0, S, z, (E.same s1).same s2, e4, fun u H3 s3 r3 => ⟨by show 3 ≤ sizeLine; decide, fun p hp => ?_⟩⟩⟩⟩
  have s23 := s2.trans s3
  have s13 := s1.trans s23
  exact q _ _ (s13.trans (same_new hp)) (rp_newT (E.same s13).dT hp ⟨v, [w, u], rfl, Rp.mv (.same s23) _ v r1, w, [u], rfl, Rp.mv (.same s3) _ w r2, .one r3⟩)
theorem pv_tup4 {x1} (ha : PV X sl .a a fa) (hb : PV X sl .a b fb) (hc : PV X sl .a c fc) (hd : PV X sl .a d fd) (h1 : starEach [a, b, c, d] X.env = (false, eval a X.env) :: starEach [b, c, d] X.env := by rfl) (h2 : starEach [b, c, d] X.env = (false, eval b X.env) :: starEach [c, d] X.env := by rfl) (h3 : starEach [c, d] X.env = (false, eval c X.env) :: starEach [d] X.env := by rfl) (h4 : starEach [d] X.env = (false, eval d X.env) :: starEach [] X.env := by rfl) :
    PV X sl .a (.Tuple [a, b, c, d] x1 pos) (fun s => (fa s).bind fun x => (fb s).bind fun y => (fc s).bind fun z => (fd s).bind fun w => some (T4.mk x y z w)) := PE.imp (pe_tup (pa_cons ha (pa_cons hb (pa_cons hc (pa_cons hd pa_nil h4) h3) h2) h1)) fun σ H Q ⟨γ, S0, S, t, E, hf, q⟩ => by
  obtain ⟨x, y, e1, e2, e3⟩ := bind2 hf
  obtain ⟨z, z', e4, e5, e6⟩ := bind2 e3
  cases e6
  refine ⟨γ, S0, S, x, E, e1, fun v H1 s1 r1 => ⟨γ, S0, S, y, E.same s1, e2, fun w H2 s2 r2 => ⟨γ, S0, S, z, (E.same s1).same s2, e4, fun u H3 s3 r3 => ⟨γ, S0, S, z', ((E.same s1).same s2).same s3, e5, fun u' H4 s4 r4 => ⟨by show 4 ≤ sizeLine; decide, fun p hp => ?_⟩⟩⟩⟩⟩
  have s34 := s3.trans s4
  have s24 := s2.trans s34
  have s14 := s1.trans s24
  exact q _ _ (s14.trans (same_new hp)) (rp_newT (E.same s14).dT hp ⟨v, [w, u, u'], rfl, Rp.mv (.same s24) _ v r1, w, [u, u'], rfl, Rp.mv (.same s34) _ w r2, u, [u'], rfl, Rp.mv (.same s4) _ u r3, .one r4⟩)
end

/-! ### in -/
section
variable [Enc τ] [DecidableEq τ] [EqT τ]
def dIn (x : τ) (ys : List τ) : Option Bool := if EqT.ok x = true ∧ EqT.ok ys = true then some (decide (x ∈ ys)) else none
def dNin (x : τ) (ys : List τ) : Option Bool := if EqT.ok x = true ∧ EqT.ok ys = true then some (!decide (x ∈ ys)) else none
theorem any_in (x : τ) : ∀ ys : List τ, ((ys.map enc).any fun z => PyData.eqv z (enc x)) = decide (x ∈ ys)
  | [] => by simp
  | y :: ys => by
    rw [List.map_cons, List.any_cons, EqT.eqv, any_in x ys]
    by_cases h : x = y
    · subst h; simp
    · simp [h, Ne.symm h]
theorem dp_list {K : PySem.W.Frag} {H : Hp} {T : Ad} {t : List τ} {v : V} (h : Rb K H T (enc t) v) (ho : EqT.ok t = true) : Dp K H v (.list (t.map enc)) := h.dp (PyData.hasDict_of_canLay _ (EqT.can t ho))
def c_in (hu : X.A.units + 65 < cLine) (hd : EqT.dep τ + 1 ≤ 64 := by decide) : Cmp X .In τ (List τ) (fun x y => dIn x y) := ⟨_, op_inD hu, fun T H x y u w t Q hT r1 r2 e q => by
  obtain ⟨⟨h1, h2⟩, rfl⟩ := if_some e
  refine ⟨enc u, w.map enc, r1.dp (PyData.hasDict_of_canLay _ (EqT.can u h1)), dp_list r2 h2, shaped_of h1 (by omega), shaped_of (τ := List τ) h2 hd, q _ H (Same.refl H) ?_⟩
  rw [any_in]; rfl⟩
def c_nin (hu : X.A.units + 65 < cLine) (hd : EqT.dep τ + 1 ≤ 64 := by decide) : Cmp X .NotIn τ (List τ) (fun x y => dNin x y) := ⟨_, op_notInD hu, fun T H x y u w t Q hT r1 r2 e q => by
  obtain ⟨⟨h1, h2⟩, rfl⟩ := if_some e
  refine ⟨enc u, w.map enc, r1.dp (PyData.hasDict_of_canLay _ (EqT.can u h1)), dp_list r2 h2, shaped_of h1 (by omega), shaped_of (τ := List τ) h2 hd, q _ H (Same.refl H) ?_⟩
  rw [any_in]; rfl⟩
end

theorem rpa_ints {K : PySem.W.Frag} {H : Hp} {T : Ad} : ∀ xs : List Int, RpA K H T (xs.map enc) (xs.map V.int)
  | [] => rfl
  | x :: xs => ⟨.int x, _, rfl, rfl, rpa_ints xs⟩
/-! ### known functions of ints -/
section
variable {p : Pos} {fa fb : Γ → Option Int}
theorem star1 (h : starEach [a] X.env = [(false, eval a X.env)]) : starEach [a] X.env = (false, eval a X.env) :: starEach [] X.env := h
theorem pv_abs (hg : Gl X "abs") (hm : X.mg "abs" = none) (ha : PV X sl .b a fa) (he : starEach [a] X.env = (false, eval a X.env) :: starEach [] X.env := by rfl) :
    PV X sl .a (.Call (.Name "abs" p) [a] [] pos) (fun s => (fa s).bind fun x => some (x.natAbs : Int)) :=
  pv_c1 (fun h => pe_callB call_abs hg hm (by decide +kernel) (pa_cons h pa_nil he) (he := he)) (fun T H x u t Q hT r e q => by
    cases e
    exact ⟨u, by rw [rb_i r], q _ H (Same.refl H) (by show V.int _ = V.int _; congr 1; split <;> omega)⟩) ha
theorem pv_int1 (hg : Gl X "int") (hm : X.mg "int" = none) (ha : PV X sl .b a fa) (he : starEach [a] X.env = (false, eval a X.env) :: starEach [] X.env := by rfl) :
    PV X sl .a (.Call (.Name "int" p) [a] [] pos) (fun s => (fa s).bind fun x => some x) :=
  pv_c1 (fun h => pe_callTy call_int1 hg hm (by decide +kernel) (pa_cons h pa_nil he) (he := he)) (fun T H x u t Q hT r e q => by
    cases e
    exact .inl ⟨u, by rw [rb_i r], q _ H (Same.refl H) rfl⟩) ha
theorem pv_intB {fa : Γ → Option Bool} (hg : Gl X "int") (hm : X.mg "int" = none) (ha : PV X sl .b a fa) (he : starEach [a] X.env = (false, eval a X.env) :: starEach [] X.env := by rfl) :
    PV X sl .a (.Call (.Name "int" p) [a] [] pos) (fun s => (fa s).bind fun x => some (if x = true then (1 : Int) else 0)) :=
  pv_c1 (fun h => pe_callTy call_int1 hg hm (by decide +kernel) (pa_cons h pa_nil he) (he := he)) (fun T H x u t Q hT r e q => by
    cases e
    exact .inr ⟨u, by rw [rb_bool r], q _ H (Same.refl H) rfl⟩) ha
theorem pv_min2 (hg : Gl X "min") (hm : X.mg "min" = none) (ha : PV X sl .b a fa) (hb : PV X sl .b b fb) (he : starEach [a, b] X.env = (false, eval a X.env) :: starEach [b] X.env := by rfl) (he2 : starEach [b] X.env = (false, eval b X.env) :: starEach [] X.env := by rfl) (hpl : (backTo pos (starEach [b] X.env)).any (·.1) = false := by rfl) (hc : X.calm = true := by rfl) :
    PV X sl .a (.Call (.Name "min" p) [a, b] [] pos) (fun s => (fa s).bind fun x => (fb s).bind fun y => some (min x y)) :=
  pv_c2 (fun h1 h2 => pe_callB (call_min2 hc) hg hm (by decide +kernel) (pa_cons h1 (pa_cons h2 pa_nil he2) he) (he := he) (hpl := hpl)) (fun T H x y u w t Q hT r1 r2 e q => by
    cases e
    exact ⟨u, w, by rw [rb_i r1, rb_i r2], q _ H (Same.refl H) (by show V.int _ = V.int _; congr 1; split <;> omega)⟩) ha hb
theorem pv_max2 (hg : Gl X "max") (hm : X.mg "max" = none) (ha : PV X sl .b a fa) (hb : PV X sl .b b fb) (he : starEach [a, b] X.env = (false, eval a X.env) :: starEach [b] X.env := by rfl) (he2 : starEach [b] X.env = (false, eval b X.env) :: starEach [] X.env := by rfl) (hpl : (backTo pos (starEach [b] X.env)).any (·.1) = false := by rfl) (hc : X.calm = true := by rfl) :
    PV X sl .a (.Call (.Name "max" p) [a, b] [] pos) (fun s => (fa s).bind fun x => (fb s).bind fun y => some (max x y)) :=
  pv_c2 (fun h1 h2 => pe_callB (call_max2 hc) hg hm (by decide +kernel) (pa_cons h1 (pa_cons h2 pa_nil he2) he) (he := he) (hpl := hpl)) (fun T H x y u w t Q hT r1 r2 e q => by
    cases e
    exact ⟨u, w, by rw [rb_i r1, rb_i r2], q _ H (Same.refl H) (by show V.int _ = V.int _; congr 1; split <;> omega)⟩) ha hb
theorem pv_sum {fa : Γ → Option (List Int)} (hg : Gl X "sum") (hm : X.mg "sum" = none) (ha : PV X sl .b a fa) (he : starEach [a] X.env = (false, eval a X.env) :: starEach [] X.env := by rfl) (hc : X.calm = true := by rfl) :
    PV X sl .a (.Call (.Name "sum" p) [a] [] pos) (fun s => (fa s).bind fun x => some x.sum) :=
  pv_c1 (fun h => pe_callB (cr_sum hc) hg hm (by decide +kernel) (pa_cons h pa_nil he) (he := he)) (fun T H x u t Q hT r e q => by
    cases e
    obtain ⟨p, xs, rfl, h1, h2⟩ := rb_l r
    rw [rpa_int h2] at h1
    exact ⟨p, u, rfl, h1, q _ H (Same.refl H) rfl⟩) ha
theorem pv_any {fa : Γ → Option (List Bool)} (hg : Gl X "any") (hm : X.mg "any" = none) (ha : PV X sl .b a fa) (he : starEach [a] X.env = (false, eval a X.env) :: starEach [] X.env := by rfl) (hc : X.calm = true := by rfl) :
    PV X sl .a (.Call (.Name "any" p) [a] [] pos) (fun s => (fa s).bind fun x => some (x.any id)) :=
  pv_c1 (fun h => pe_callB (cr_any hc) hg hm (by decide +kernel) (pa_cons h pa_nil he) (he := he)) (fun T H x u t Q hT r e q => by
    cases e
    obtain ⟨p, xs, rfl, h1, h2⟩ := rb_l r
    rw [rpa_bool h2] at h1
    exact ⟨p, u, rfl, h1, q _ H (Same.refl H) rfl⟩) ha
theorem pv_all {fa : Γ → Option (List Bool)} (hg : Gl X "all") (hm : X.mg "all" = none) (ha : PV X sl .b a fa) (he : starEach [a] X.env = (false, eval a X.env) :: starEach [] X.env := by rfl) (hc : X.calm = true := by rfl) :
    PV X sl .a (.Call (.Name "all" p) [a] [] pos) (fun s => (fa s).bind fun x => some (x.all id)) :=
  pv_c1 (fun h => pe_callB (cr_all hc) hg hm (by decide +kernel) (pa_cons h pa_nil he) (he := he)) (fun T H x u t Q hT r e q => by
    cases e
    obtain ⟨p, xs, rfl, h1, h2⟩ := rb_l r
    rw [rpa_bool h2] at h1
    exact ⟨p, u, rfl, h1, q _ H (Same.refl H) rfl⟩) ha
/-- the least, the greatest of a list that is not empty -/
def least (x : List Int) : Option Int := match x with
  | [] => none
  | y :: ys => some (ys.foldl min y)
def most (x : List Int) : Option Int := match x with
  | [] => none
  | y :: ys => some (ys.foldl max y)
theorem foldl_min : ∀ (ys : List Int) (y m : Int), m ∈ y :: ys → (∀ z, z ∈ y :: ys → m ≤ z) → ys.foldl min y = m
  | [], y, m, h1, h2 => by simp at h1; simp [h1]
  | z :: ys, y, m, h1, h2 => by
    rw [List.foldl_cons]
    have hy := h2 y List.mem_cons_self
    have hz := h2 z (List.mem_cons_of_mem _ List.mem_cons_self)
    refine foldl_min ys (min y z) m ?_ fun w hw => ?_
    · rcases List.mem_cons.mp h1 with rfl | h1
      · rw [show min m z = m by omega]; exact List.mem_cons_self
      · rcases List.mem_cons.mp h1 with rfl | h1
        · rw [show min y m = m by omega]; exact List.mem_cons_self
        · exact List.mem_cons_of_mem _ h1
    · rcases List.mem_cons.mp hw with rfl | hw
      · omega
      · exact h2 w (List.mem_cons_of_mem _ (List.mem_cons_of_mem _ hw))
theorem foldl_max : ∀ (ys : List Int) (y m : Int), m ∈ y :: ys → (∀ z, z ∈ y :: ys → z ≤ m) → ys.foldl max y = m
  | [], y, m, h1, h2 => by simp at h1; simp [h1]
  | z :: ys, y, m, h1, h2 => by
    rw [List.foldl_cons]
    have hy := h2 y List.mem_cons_self
    have hz := h2 z (List.mem_cons_of_mem _ List.mem_cons_self)
    refine foldl_max ys (max y z) m ?_ fun w hw => ?_
    · rcases List.mem_cons.mp h1 with rfl | h1
      · rw [show max m z = m by omega]; exact List.mem_cons_self
      · rcases List.mem_cons.mp h1 with rfl | h1
        · rw [show max y m = m by omega]; exact List.mem_cons_self
        · exact List.mem_cons_of_mem _ h1
    · rcases List.mem_cons.mp hw with rfl | hw
      · omega
      · exact h2 w (List.mem_cons_of_mem _ (List.mem_cons_of_mem _ hw))
theorem pv_min1 {fa : Γ → Option (List Int)} (hg : Gl X "min") (hm : X.mg "min" = none) (ha : PV X sl .b a fa) (he : starEach [a] X.env = (false, eval a X.env) :: starEach [] X.env := by rfl) (hc : X.calm = true := by rfl) :
    PV X sl .a (.Call (.Name "min" p) [a] [] pos) (fun s => (fa s).bind fun x => least x) :=
  pv_c1 (fun h => pe_callB (cr_min hc) hg hm (by decide +kernel) (pa_cons h pa_nil he) (he := he)) (fun T H x u t Q hT r e q => by
    obtain ⟨p, xs, rfl, h1, h2⟩ := rb_l r
    rw [rpa_int h2] at h1
    cases u with
    | nil => cases e
    | cons y ys =>
      cases e
      exact ⟨p, _, rfl, h1, by simp, fun m hm hle => q _ H (Same.refl H) (by rw [foldl_min ys y m hm hle]; rfl)⟩) ha
theorem pv_max1 {fa : Γ → Option (List Int)} (hg : Gl X "max") (hm : X.mg "max" = none) (ha : PV X sl .b a fa) (he : starEach [a] X.env = (false, eval a X.env) :: starEach [] X.env := by rfl) (hc : X.calm = true := by rfl) :
    PV X sl .a (.Call (.Name "max" p) [a] [] pos) (fun s => (fa s).bind fun x => most x) :=
  pv_c1 (fun h => pe_callB (cr_max hc) hg hm (by decide +kernel) (pa_cons h pa_nil he) (he := he)) (fun T H x u t Q hT r e q => by
    obtain ⟨p, xs, rfl, h1, h2⟩ := rb_l r
    rw [rpa_int h2] at h1
    cases u with
    | nil => cases e
    | cons y ys =>
      cases e
      exact ⟨p, _, rfl, h1, by simp, fun m hm hle => q _ H (Same.refl H) (by rw [foldl_max ys y m hm hle]; rfl)⟩) ha
theorem pv_list [Enc τ] {fa : Γ → Option (List τ)} (hg : Gl X "list") (hm : X.mg "list" = none) (ha : PV X sl .b a fa) (he : starEach [a] X.env = (false, eval a X.env) :: starEach [] X.env := by rfl) :
    PV X sl .f (.Call (.Name "list" p) [a] [] pos) (fun s => (fa s).bind fun x => some x) :=
  pv_c1 (fun h => pe_callTy call_list_of hg hm (by decide +kernel) (pa_cons h pa_nil he) (he := he)) (fun T H x u t Q hT r e q => by
    cases e
    obtain ⟨p, xs, rfl, h1, h2⟩ := rb_l r
    exact ⟨p, xs, rfl, .inl h1, fun l hl => q _ _ (same_new hl) (fr_new hT hl h2)⟩) ha
theorem pv_lenS {fa : Γ → Option Tx} (hg : Gl X "len") (hm : X.mg "len" = none) (ha : PV X sl .b a fa) (he : starEach [a] X.env = (false, eval a X.env) :: starEach [] X.env := by rfl) :
    PV X sl .a (.Call (.Name "len" p) [a] [] pos) (fun s => (fa s).bind fun x => if x.cs.length ≤ sizeLine then some (x.cs.length : Int) else none) :=
  pv_c1 (fun h => pe_callB call_len_str hg hm PySem.boot_len (pa_cons h pa_nil he) (he := he)) (fun T H x u t Q hT r e q => by
    obtain ⟨hz, rfl⟩ := if_some e
    exact ⟨⟨u.cs.toArray⟩, by rw [rb_t r], hz, q _ H (Same.refl H) rfl⟩) ha
/-- sorted, ints -/
def srt (x : List Int) : List Int := x.mergeSort (fun a b => decide (a ≤ b))
theorem srt_uniq {xs ys : List Int} (p : ys.Perm xs) (s : ys.Pairwise (· ≤ ·)) : ys = srt xs := by
  have p2 : (srt xs).Perm xs := List.mergeSort_perm _ _
  have s2 : (srt xs).Pairwise (· ≤ ·) := by
    have h := List.pairwise_mergeSort (le := fun a b : Int => decide (a ≤ b)) (by intro a b c h1 h2; simp at *; omega) (by intro a b; simp; omega) xs
    exact h.imp (by intro a b h; simpa using h)
  exact (p.trans p2.symm).eq_of_pairwise (fun a b _ _ h1 h2 => by omega) s s2
theorem pv_sorted {fa : Γ → Option (List Int)} (hg : Gl X "sorted") (hm : X.mg "sorted" = none) (ha : PV X sl .b a fa) (he : starEach [a] X.env = (false, eval a X.env) :: starEach [] X.env := by rfl) :
    PV X sl .f (.Call (.Name "sorted" p) [a] [] pos) (fun s => (fa s).bind fun x => some (srt x)) :=
  pv_c1 (fun h => pe_callB cr_sortedI hg hm (by decide +kernel) (pa_cons h pa_nil he) (he := he)) (fun T H x u t Q hT r e q => by
    cases e
    obtain ⟨p, xs, rfl, h1, h2⟩ := rb_l r
    have e2 := rpa_int h2
    rw [e2] at h1
    refine ⟨p, u, rfl, h1, fun ns' l hp hs hl => ?_⟩
    rw [srt_uniq hp hs]
    refine q _ _ (same_new hl) (fr_new hT hl ?_)
    exact rpa_ints _) ha
theorem pv_gcd (hg : Gl X "gcd") {u : Value} (hm : X.mg "gcd" = some (.builtin "math.gcd")) (ha : PV X sl .b a fa) (hb : PV X sl .b b fb) (h : ∀ {ta tb : TE}, PE X a ta → PE X b tb → PE X (.Call (.Name "gcd" p) [a, b] [] pos) (tCB (rGcd) (tCons ta (tCons tb tNil)))) :
    PV X sl .a (.Call (.Name "gcd" p) [a, b] [] pos) (fun s => (fa s).bind fun x => (fb s).bind fun y => some ((Nat.gcd x.natAbs y.natAbs : Nat) : Int)) :=
  pv_c2 h (fun T H x y u w t Q hT r1 r2 e q => by
    cases e
    exact ⟨u, w, by rw [rb_i r1, rb_i r2], q _ H (Same.refl H) rfl⟩) ha hb
end
end PL

/-! PL6: statements. -/
namespace PL
open PySem PySem.Spec L2
open Enc (enc)

inductive Out (Γ ρ : Type) where
  | nx (g : Γ)
  | rt (r : ρ)
  deriving DecidableEq
variable {Γ Γ' Γ'' Γb ρ τ α β γ' δ : Type} {X : Cx} {sl : Γ → Sl} {sl' : Γ' → Sl} {sl'' : Γ'' → Sl} {e a b c d : Expr} {es : List Expr} {k k1 k2 k3 : Kd} {pos : Pos}

/-- what a def hands back; H, S: ahead of the code -/
def FrR (K : PySem.W.Frag) (S0 S : Ad) (H H' : Hp) (d : PyData) (v : V) : Prop :=
  ∃ p, v = .ref p ∧ (H p ≠ none → S p) ∧ ¬ S0 p ∧ ((∃ ds xs, d = .list ds ∧ H' p = some (.lst xs) ∧ RpA K H' (wi S0 p) ds xs) ∨ ∃ kvs es, d = .dict kvs ∧ H' p = some (.dK es) ∧ RpK K H' (wi S0 p) kvs es)
def RetV (kr : Kd) (K : PySem.W.Frag) (S0 S : Ad) (H H' : Hp) (d : PyData) (v : V) : Prop :=
  Mv S H no H' ∧ match kr with
  | .f => FrR K S0 S H H' d v
  | _ => Rp K H' S0 d v
theorem Mv.no {S S' : Ad} {H H' : Hp} (m : Mv S H S' H') : Mv S H no H' := fun a o h n => ⟨(m a o h n).1, fun z => z⟩
theorem Mv.no_trans {S S' : Ad} {H H' H'' : Hp} (m : Mv S H S' H') (m' : Mv S' H' PL.no H'') : Mv S H PL.no H'' := m.trans m'
theorem RetV.back {kr : Kd} {K : PySem.W.Frag} {S0 S S' : Ad} {H H' H'' : Hp} {d : PyData} {v : V} (m : Mv S H S' H') (r : RetV kr K S0 S' H' H'' d v) : RetV kr K S0 S H H'' d v := by
  refine ⟨m.no_trans r.1, ?_⟩
  have r2 := r.2
  cases kr with
  | a => exact r2
  | b => exact r2
  | f =>
    obtain ⟨p, e, h1, h2, h3⟩ := r2
    refine ⟨p, e, fun hp => ?_, h2, h3⟩
    cases hq : H p with
    | none => exact absurd hq hp
    | some o =>
      by_cases hs : S p
      · exact hs
      · obtain ⟨e1, e2⟩ := m p o hq hs
        exact absurd (h1 (by rw [e1]; simp)) e2

section
variable [Enc ρ]
def Post (K : PySem.W.Frag) (S0 S : Ad) (H : Hp) (sl' : Γ' → Sl) (kr : Kd) (D : Ends) : Out Γ' ρ → Prop
  | .nx g => ∀ σ' H' S', EnvS K S0 S' H' (sl' g) σ' → Mv S H S' H' → D.nx σ' H'
  | .rt r => ∀ v H', RetV kr K S0 S H H' (enc r) v → D.rt v H'
def tS (K : PySem.W.Frag) (sl : Γ → Sl) (sl' : Γ' → Sl) (kr : Kd) (f : Γ → Option (Out Γ' ρ)) : TS := fun D σ H =>
  ∃ (g : Γ) (S0 S : Ad) (o : Out Γ' ρ), EnvS K S0 S H (sl g) σ ∧ f g = some o ∧ Post K S0 S H sl' kr D o
def SV (X : Cx) (sl : Γ → Sl) (sl' : Γ' → Sl) (kr : Kd) (st : Stmt) (f : Γ → Option (Out Γ' ρ)) : Prop := PS X st (tS X.K sl sl' kr f)
def BV (X : Cx) (sl : Γ → Sl) (sl' : Γ' → Sl) (kr : Kd) (st : List Stmt) (f : Γ → Option (Out Γ' ρ)) : Prop := PSs X st (tS X.K sl sl' kr f)
def seqO (x : Option (Out Γ ρ)) (g : Γ → Option (Out Γ' ρ)) : Option (Out Γ' ρ) := x.bind fun o => match o with
  | .nx s => g s
  | .rt r => some (.rt r)
theorem Post.back {K : PySem.W.Frag} {S0 S S' : Ad} {H H' : Hp} {sl' : Γ' → Sl} {kr : Kd} {D : Ends} {o : Out Γ' ρ} (m : Mv S H S' H') (p : Post K S0 S H sl' kr D o) : Post K S0 S' H' sl' kr D o := by
  cases o with
  | nx g => exact fun σ' H'' S'' E m' => p σ' H'' S'' E (m.trans m')
  | rt r => exact fun v H'' q => p v H'' (q.back m)

/-! ### weakening -/
inductive Wk : Sl → Sl → Prop
  | nil : Wk [] []
  | s {x : Option (Mo × PyData)} {l l' : Sl} : Wk l l' → Wk (x :: l) (x :: l')
  | d {x : Option (Mo × PyData)} {l l' : Sl} : Wk l l' → Wk (x :: l) (none :: l')
  | sh {x : PyData} {l l' : Sl} : Wk l l' → Wk (some (.o, x) :: l) (some (.a, x) :: l')
theorem Wk.len {l l' : Sl} (w : Wk l l') : l'.length = l.length := by
  induction w with
  | nil => rfl
  | s _ ih => simp [ih]
  | d _ ih => simp [ih]
  | sh _ ih => simp [ih]
theorem Wk.at_ {l l' : Sl} (w : Wk l l') : ∀ {i : Nat} {m : Mo} {x : PyData}, l'[i]? = some (some (m, x)) → l[i]? = some (some (m, x)) ∨ (m = .a ∧ l[i]? = some (some (.o, x))) := by
  induction w with
  | nil => intro i m x h; simp at h
  | s _ ih =>
    intro i m x h
    cases i with
    | zero => exact .inl h
    | succ i => exact ih h
  | d _ ih =>
    intro i m x h
    cases i with
    | zero => simp at h
    | succ i => exact ih h
  | sh _ ih =>
    intro i m x h
    cases i with
    | zero =>
      have h : some (some (Mo.a, _)) = some (some (m, x)) := h
      cases h
      exact .inr ⟨rfl, rfl⟩
    | succ i => exact ih h
theorem Wk.refl : ∀ l : Sl, Wk l l
  | [] => .nil
  | _ :: l => .s (Wk.refl l)
theorem EnvS.wk {K : PySem.W.Frag} {S0 S : Ad} {H : Hp} {l l' : Sl} {σ : L2.St} (E : EnvS K S0 S H l σ) (w : Wk l l') : ∃ S', Mv S H S' H ∧ EnvS K S0 S' H l' σ := by
  refine ⟨fun a => S a ∧ ¬ ∃ (i : Nat) (d : PyData), l'[i]? = some (some (.a, d)) ∧ l[i]? = some (some (.o, d)) ∧ σ[i]? = some (some (.ref a)), .less fun a h => h.1, ?_⟩
  refine ⟨w.len.trans E.len, fun a h => E.dS a h.1, E.d0, fun a h => E.ap a h.1, fun i m d h => ?_, fun i j d e v hij hi hj hv => ?_⟩
  · have m0 : Mv S H (fun a => S a ∧ ¬ ∃ (i : Nat) (d : PyData), l'[i]? = some (some (.a, d)) ∧ l[i]? = some (some (.o, d)) ∧ σ[i]? = some (some (.ref a))) H := .less fun a h => h.1
    rcases w.at_ h with h1 | ⟨rfl, h1⟩
    · obtain ⟨v, hv, q⟩ := E.at_ i m d h1
      refine ⟨v, hv, ?_⟩
      cases m with
      | a => exact Rp.mv m0.un _ _ q
      | b => exact Rbs.mv m0 q
      | o =>
        obtain ⟨a, rfl, h2, h3⟩ := q
        refine ⟨a, rfl, ⟨h2, ?_⟩, ?_⟩
        · rintro ⟨j, d', e1, e2, e3⟩
          by_cases hij : i = j
          · subst hij
            rw [h] at e1
            cases e1
          · exact E.one i j d d' _ hij h1 e2 hv e3
        · rcases h3 with ⟨ds, xs, e1, e2, e3⟩ | ⟨ds, xs, e1, e2, e3⟩
          · exact .inl ⟨ds, xs, e1, e2, e3.mv m0.un⟩
          · exact .inr ⟨ds, xs, e1, e2, e3.mv m0.un⟩
    · obtain ⟨v, hv, a, rfl, h2, h3⟩ := E.at_ i _ d h1
      refine ⟨_, hv, ?_⟩
      have n1 : ¬ un (fun a => S a ∧ ¬ ∃ (i : Nat) (d : PyData), l'[i]? = some (some (.a, d)) ∧ l[i]? = some (some (.o, d)) ∧ σ[i]? = some (some (.ref a))) S0 a := by
        rintro (z | z)
        · exact z.2 ⟨i, d, h, h1, hv⟩
        · exact E.ap a h2 z
      rcases h3 with ⟨ds, xs, rfl, e2, e3⟩ | ⟨ds, xs, rfl, e2, e3⟩
      · exact ⟨a, xs, rfl, .inl ⟨.inl e2, n1⟩, e3.mv m0.un⟩
      · exact ⟨a, xs, rfl, ⟨.inl e2, n1⟩, e3.mv m0.un⟩
  · have oo : ∀ {i : Nat} {d : PyData}, l'[i]? = some (some (.o, d)) → l[i]? = some (some (.o, d)) := fun h => by
      rcases w.at_ h with h1 | ⟨e, _⟩
      · exact h1
      · cases e
    exact E.one i j d e v hij (oo hi) (oo hj) hv

/-! ### blocks -/
variable {kr : Kd} {st : Stmt} {sts sts2 : List Stmt}
theorem bv_nil {h : Γ → Γ'} (w : ∀ g, Wk (sl g) (sl' (h g))) : BV (ρ := ρ) X sl sl' kr [] (fun g => some (.nx (h g))) := PSs.imp pss_nil fun D σ H ⟨g, S0, S, o, E, hf, p⟩ => by
  cases hf
  obtain ⟨S', m, E'⟩ := E.wk (w g)
  exact p σ H S' E' m
theorem bv_wk {h : Γ → Γ''} {f : Γ'' → Option (Out Γ' ρ)} (w : ∀ g, Wk (sl g) (sl'' (h g))) (hb : BV X sl'' sl' kr sts f) : BV X sl sl' kr sts (fun g => f (h g)) := PSs.imp hb fun D σ H ⟨g, S0, S, o, E, hf, p⟩ => by
  obtain ⟨S', m, E'⟩ := E.wk (w g)
  exact ⟨h g, S0, S', o, E', hf, p.back m⟩
theorem bv_cons {f : Γ → Option (Out Γ'' ρ)} {g : Γ'' → Option (Out Γ' ρ)} (h1 : SV X sl sl'' kr st f) (h2 : BV X sl'' sl' kr sts g) : BV X sl sl' kr (st :: sts) (fun s => seqO (f s) g) := PSs.imp (pss_cons h1 h2) fun D σ H ⟨γ, S0, S, o, E, hf, p⟩ => by
  obtain ⟨o1, e1, e2⟩ := bind1 hf
  refine ⟨γ, S0, S, o1, E, e1, ?_⟩
  cases o1 with
  | nx g1 => exact fun σ' H' S' E' m => ⟨g1, S0, S', o, E', e2, p.back m⟩
  | rt r =>
    cases e2
    exact p
theorem BV.eq {f f' : Γ → Option (Out Γ' ρ)} (h : BV X sl sl' kr sts f) (h' : f' = f) : BV X sl sl' kr sts f' := h' ▸ h

/-! ### assignments -/
theorem set_get {l : List α} {i j : Nat} {x y : α} (h : (l.set i x)[j]? = some y) : (i = j ∧ x = y ∧ j < l.length) ∨ (i ≠ j ∧ l[j]? = some y) := by
  by_cases hij : i = j
  · subst hij
    by_cases hl : i < l.length
    · rw [List.getElem?_set_self hl] at h
      exact .inl ⟨rfl, Option.some.inj h, hl⟩
    · rw [List.getElem?_eq_none (by simpa using hl)] at h
      cases h
  · rw [List.getElem?_set_ne hij] at h
    exact .inr ⟨hij, h⟩
theorem EnvS.seta {K : PySem.W.Frag} {S0 S : Ad} {H : Hp} {l : Sl} {σ : L2.St} {i : Nat} {d : PyData} {v : V} (E : EnvS K S0 S H l σ) (r : Rp K H (un S S0) d v) : EnvS K S0 S H (l.set i (some (.a, d))) (σ.set i (some v)) := by
  refine ⟨by simp [E.len], E.dS, E.d0, E.ap, fun j m e h => ?_, fun j j' e e' w hij hj hj' hv => ?_⟩
  · rcases set_get h with ⟨rfl, e1, hl⟩ | ⟨hne, h⟩
    · cases e1
      exact ⟨v, by rw [List.getElem?_set_self (by rw [← E.len]; exact hl)], r⟩
    · obtain ⟨w, h1, h2⟩ := E.at_ j m e h
      exact ⟨w, by rw [List.getElem?_set_ne hne]; exact h1, h2⟩
  · rcases set_get hj with ⟨_, e1, _⟩ | ⟨hne, hj⟩
    · cases e1
    · rcases set_get hj' with ⟨_, e1, _⟩ | ⟨hne', hj'⟩
      · cases e1
      · rw [List.getElem?_set_ne hne] at hv
        rw [List.getElem?_set_ne hne']
        exact E.one j j' e e' w hij hj hj' hv
/-- a new object is owned -/
theorem EnvS.seto' {K : PySem.W.Frag} {S0 S : Ad} {H H' : Hp} {l : Sl} {σ : L2.St} {i : Nat} {d : PyData} {v : V} (E : EnvS K S0 S H l σ) (s : Same H H') (r : Fr K H H' (un S S0) d v) : ∃ p, v = .ref p ∧ Mv S H (wi S p) H' ∧ EnvS K S0 (wi S p) H' (l.set i (some (.o, d))) (σ.set i (some v)) := by
  obtain ⟨p, rfl, hp, r⟩ := r
  have nS : ¬ S p := fun z => E.dS p z hp
  have n0 : ¬ S0 p := fun z => E.d0 p z hp
  have hp' : H' p ≠ none := by
    rcases r with ⟨_, _, _, e, _⟩ | ⟨_, _, _, e, _⟩ <;> rw [e] <;> simp
  have mv : Mv S H (wi S p) H' := fun a o h n => ⟨s a o h, fun z => z.elim n (ne_of_none h hp)⟩
  have hun : ∀ a, un (wi S p) S0 a → wi (un S S0) p a := fun a z => by
    rcases z with (z | z) | z
    · exact .inl (.inl z)
    · exact .inr z
    · exact .inl (.inr z)
  refine ⟨p, rfl, mv, by simp [E.len], fun a h => ?_, fun a h => nn_same s (E.d0 a h), fun a h => ?_, fun j m e h => ?_, fun j j' e e' w hij hj hj' hv => ?_⟩
  · rcases h with h | rfl
    · exact nn_same s (E.dS a h)
    · exact hp'
  · rcases h with h | rfl
    · exact E.ap a h
    · exact n0
  · rcases set_get h with ⟨rfl, e1, hl⟩ | ⟨hne, h⟩
    · cases e1
      refine ⟨_, by rw [List.getElem?_set_self (by rw [← E.len]; exact hl)], p, rfl, .inr rfl, ?_⟩
      rcases r with ⟨ds, xs, e1, e2, e3⟩ | ⟨ds, xs, e1, e2, e3⟩
      · exact .inl ⟨ds, xs, e1, e2, e3.mv (.less hun)⟩
      · exact .inr ⟨ds, xs, e1, e2, e3.mv (.less hun)⟩
    · obtain ⟨w, h1, h2⟩ := E.at_ j m e h
      refine ⟨w, by rw [List.getElem?_set_ne hne]; exact h1, ?_⟩
      cases m with
      | a => exact Rp.mv mv.un _ _ h2
      | b => exact Rbs.mv mv h2
      | o =>
        obtain ⟨a, rfl, h2, h3⟩ := h2
        refine ⟨a, rfl, .inl h2, ?_⟩
        rcases h3 with ⟨ds, xs, e1, e2, e3⟩ | ⟨ds, xs, e1, e2, e3⟩
        · exact .inl ⟨ds, xs, e1, s _ _ e2, e3.mv mv.un⟩
        · exact .inr ⟨ds, xs, e1, s _ _ e2, e3.mv mv.un⟩
  · have other : ∀ {k : Nat} {x : PyData} {u : V}, l[k]? = some (some (.o, x)) → σ[k]? = some (some u) → u ≠ .ref p := fun {k x u} h1 h2 e => by
      obtain ⟨w, h3, a, e1, h4, _⟩ := E.at_ k _ x h1
      rw [h2] at h3
      cases h3
      rw [e] at e1
      cases e1
      exact nS h4
    rcases set_get hj with ⟨rfl, e1, hl⟩ | ⟨hne, hj⟩
    · rcases set_get hj' with ⟨rfl, _, _⟩ | ⟨hne', hj'⟩
      · exact absurd rfl hij
      · rw [List.getElem?_set_self (by rw [← E.len]; exact hl)] at hv
        cases hv
        rw [List.getElem?_set_ne hne']
        exact fun q => other hj' q rfl
    · rw [List.getElem?_set_ne hne] at hv
      rcases set_get hj' with ⟨rfl, e1, hl⟩ | ⟨hne', hj'⟩
      · rw [List.getElem?_set_self (by rw [← E.len]; exact hl)]
        intro q
        cases q
        exact other hj hv rfl
      · rw [List.getElem?_set_ne hne']
        exact E.one j j' e e' w hij hj hj' hv
theorem EnvS.seto {K : PySem.W.Frag} {S0 S : Ad} {H H' : Hp} {l : Sl} {σ : L2.St} {i : Nat} {d : PyData} {v : V} (E : EnvS K S0 S H l σ) (s : Same H H') (r : Fr K H H' (un S S0) d v) : ∃ S', Mv S H S' H' ∧ EnvS K S0 S' H' (l.set i (some (.o, d))) (σ.set i (some v)) := by
  obtain ⟨p, _, h1, h2⟩ := E.seto' (i := i) s r
  exact ⟨_, h1, h2⟩
section
variable [Enc τ] {f : Γ → Option τ} {i : Nat} {x : Str} {p' : Pos}
theorem sv_set (set : Γ → τ → Γ') (h : ∀ g t, sl' (set g t) = (sl g).set i (some (.a, enc t))) (hN : X.N.Nodup) (he : PV X sl .a e f) (hi : X.N[i]? = some x := by rfl) (hx : Loc X.env.scope x := by first | exact .inl rfl | exact .inr rfl)
    (hs : swapsWith e (some (.Name x p')) pos.line X.env = pure false := by rfl) (hf : X.fn x = true ∨ X.env.scope.names.lookup x = some .local := by first | exact .inl rfl | exact .inr rfl) :
    SV (ρ := ρ) X sl sl' kr (.Assign [.Name x p'] e pos) (fun g => (f g).bind fun t => some (.nx (set g t))) := PS.imp (ps_set (i := i) hN hi hx he hs hf) fun D σ H ⟨γ, S0, S, o, E, hf, p⟩ => by
  obtain ⟨t, e1, e2⟩ := bind1 hf
  cases e2
  refine ⟨γ, S0, S, t, E, e1, fun v H' s r => ?_⟩
  refine p _ _ S ?_ (.same s)
  rw [h]
  exact (E.same s).seta r
theorem sv_own (set : Γ → τ → Γ') (h : ∀ g t, sl' (set g t) = (sl g).set i (some (.o, enc t))) (hN : X.N.Nodup) (he : PV X sl .f e f) (hi : X.N[i]? = some x := by rfl) (hx : Loc X.env.scope x := by first | exact .inl rfl | exact .inr rfl)
    (hs : swapsWith e (some (.Name x p')) pos.line X.env = pure false := by rfl) (hf : X.fn x = true ∨ X.env.scope.names.lookup x = some .local := by first | exact .inl rfl | exact .inr rfl) :
    SV (ρ := ρ) X sl sl' kr (.Assign [.Name x p'] e pos) (fun g => (f g).bind fun t => some (.nx (set g t))) := PS.imp (ps_set (i := i) hN hi hx he hs hf) fun D σ H ⟨γ, S0, S, o, E, hf, p⟩ => by
  obtain ⟨t, e1, e2⟩ := bind1 hf
  cases e2
  refine ⟨γ, S0, S, t, E, e1, fun v H' s r => ?_⟩
  obtain ⟨S', m, E'⟩ := E.seto (i := i) s r
  refine p _ _ S' ?_ m
  rw [h]
  exact E'
end
/-- an expression's value dropped -/
theorem sv_expr [Enc τ] {f : Γ → Option τ} (he : PV X sl k e f) (hs : swapsWith e none pos.line X.env = pure false := by rfl) : SV (ρ := ρ) X sl sl kr (.Expr e pos) (fun g => (f g).bind fun _ => some (.nx g)) := PS.imp (ps_expr he hs) fun D σ H ⟨γ, S0, S, o, E, hf, p⟩ => by
  obtain ⟨t, e1, e2⟩ := bind1 hf
  cases e2
  exact ⟨γ, S0, S, t, E, e1, fun v H' s r => p _ _ S (E.same s) (.same s)⟩
theorem sv_pass : SV (ρ := ρ) X sl sl kr (.Pass pos) (fun g => some (.nx g)) := PS.imp ps_pass fun D σ H ⟨γ, S0, S, o, E, hf, p⟩ => by
  cases hf
  exact p _ _ S E .refl
/-- code that is not come to -/
theorem sv_never : SV (ρ := ρ) X sl sl' kr st (fun _ => none) := PS.imp ps_never fun D σ H ⟨γ, S0, S, o, E, hf, p⟩ => by cases hf

/-! ### return -/
theorem sv_ret {f : Γ → Option ρ} (he : PV X sl .a e f) : SV (ρ := ρ) X sl sl' .a (.Return (some e) pos) (fun g => (f g).bind fun r => some (.rt r)) := PS.imp (ps_ret he) fun D σ H ⟨γ, S0, S, o, E, hf, p⟩ => by
  obtain ⟨t, e1, e2⟩ := bind1 hf
  cases e2
  exact ⟨γ, S0, S, t, E, e1, fun v H' s r => p v H' ⟨(Mv.same s).no, Rp.mv (.less fun a z => .inr z) _ _ r⟩⟩
theorem sv_retf {f : Γ → Option ρ} (he : PV X sl .f e f) : SV (ρ := ρ) X sl sl' .f (.Return (some e) pos) (fun g => (f g).bind fun r => some (.rt r)) := PS.imp (ps_ret he) fun D σ H ⟨γ, S0, S, o, E, hf, p⟩ => by
  obtain ⟨t, e1, e2⟩ := bind1 hf
  cases e2
  refine ⟨γ, S0, S, t, E, e1, fun v H' s r => p v H' ⟨(Mv.same s).no, ?_⟩⟩
  obtain ⟨q, rfl, hq, r⟩ := r
  have n0 : ¬ S0 q := fun z => E.d0 q z hq
  refine ⟨q, rfl, fun z => absurd hq z, n0, ?_⟩
  rcases r with ⟨ds, xs, e1, e2, e3⟩ | ⟨ds, xs, e1, e2, e3⟩
  · exact .inl ⟨ds, xs, e1, e2, e3.mv (.less fun a z => z.elim (fun z => .inl (.inr z)) .inr)⟩
  · exact .inr ⟨ds, xs, e1, e2, e3.mv (.less fun a z => z.elim (fun z => .inl (.inr z)) .inr)⟩
/-- an owned list handed back -/
theorem sv_reto {i : Nat} {x : Str} {p0 : Pos} (q : Γ → ρ) (h : ∀ g, (sl g)[i]? = some (some (.o, enc (q g)))) (hN : X.N[i]? = some x := by rfl)
    (hv : Vis X.env.scope x := by first | exact Or.inl rfl | exact Or.inr (Or.inl rfl) | exact Or.inr (Or.inr rfl)) (hd : (x == ("__debug__" : Str)) = false := by decide) (hcd : (x == ("__classdict__" : Str)) = false := by decide) :
    SV (ρ := ρ) X sl sl' .f (.Return (some (.Name x p0)) pos) (fun g => some (.rt (q g))) := PS.imp (ps_ret (pe_var (i := i) hN hv hd hcd)) fun D σ H ⟨γ, S0, S, o, E, hf, p⟩ => by
  cases hf
  obtain ⟨v, h1, a, rfl, h2, h3⟩ := E.at_ i _ _ (h γ)
  refine ⟨_, h1, p _ _ ⟨(Mv.refl (T := S)).no, a, rfl, fun _ => h2, E.ap a h2, ?_⟩⟩
  rcases h3 with ⟨ds, xs, e1, e2, e3⟩ | ⟨ds, xs, e1, e2, e3⟩
  · exact .inl ⟨ds, xs, e1, e2, e3.mv (.less fun b z => z.elim .inr fun z => .inl (z ▸ h2))⟩
  · exact .inr ⟨ds, xs, e1, e2, e3.mv (.less fun b z => z.elim .inr fun z => .inl (z ▸ h2))⟩

/-! ### if -/
theorem sv_if {c : Expr} {fc : Γ → Option Bool} {f g : Γ → Option (Out Γ' ρ)} (hc : PB X sl c fc) (ha : BV X sl sl' kr sts f) (hb : BV X sl sl' kr sts2 g) : SV X sl sl' kr (.If c sts sts2 pos) (fun s => (fc s).bind fun t => if t = true then f s else g s) :=
  PS.imp (ps_if hc ha hb) fun D σ H ⟨γ, S0, S, o, E, hf, p⟩ => by
    obtain ⟨t, e1, e2⟩ := bind1 hf
    refine ⟨γ, S0, S, t, E, e1, fun H' s => ?_⟩
    cases t with
    | true => exact ⟨γ, S0, S, o, E.same s, e2, p.back (.same s)⟩
    | false => exact ⟨γ, S0, S, o, E.same s, e2, p.back (.same s)⟩

/-! ### while -/
def whileO (c : Γ → Option Bool) (b : Γ → Option (Out Γ ρ)) : Nat → Γ → Option (Out Γ ρ)
  | 0, _ => none
  | n + 1, g => (c g).bind fun t => if t = true then seqO (b g) (whileO c b n) else some (.nx g)
theorem sv_while {c : Expr} (n : Nat) {fc : Γ → Option Bool} {f : Γ → Option (Out Γ ρ)} (hp : PassesOwn (model X.prog X.w) X.A X.env X.xe) (hc : PB X sl c fc) (hb : BV X sl sl kr sts f) : SV X sl sl kr (.While c sts [] pos) (whileO fc f n) :=
  PS.imp (ps_while hp hc hb) fun D σ H ⟨γ, S0, S, o, E, hf, p⟩ => by
    refine ⟨fun m σ1 H1 => ∃ g1 S1, EnvS X.K S0 S1 H1 (sl g1) σ1 ∧ whileO fc f m g1 = some o ∧ Post X.K S0 S1 H1 sl kr D o, ⟨n, γ, S, E, hf, p⟩, ?_⟩
    rintro m σ1 H1 ⟨g1, S1, E1, h1, p1⟩
    cases m with
    | zero => cases h1
    | succ m =>
      obtain ⟨t, e1, e2⟩ := bind1 h1
      refine ⟨g1, S0, S1, t, E1, e1, fun H2 s2 => ?_⟩
      have E2 := E1.same s2
      have p2 : Post X.K S0 S1 H2 sl kr D o := p1.back (.same s2)
      cases t with
      | false =>
        cases e2
        exact iteF (p2 σ1 H2 S1 E2 .refl)
      | true =>
        obtain ⟨o1, e3, e4⟩ := bind1 (show seqO (f g1) (whileO fc f m) = some o from e2)
        refine iteT ⟨fun σ' H' => ∃ g' S', EnvS X.K S0 S' H' (sl g') σ' ∧ whileO fc f m g' = some o ∧ Post X.K S0 S' H' sl kr D o, fun σ' H' q => ⟨m, Nat.lt_succ_self m, q⟩, g1, S0, S1, o1, E2, e3, ?_⟩
        cases o1 with
        | nx g' => exact fun σ' H' S' E' m' => ⟨g', S', E', e4, p2.back m'⟩
        | rt r =>
          cases e4
          exact p2
end
end PL

/-! PL7: stores, loops over things, comprehensions, defs. -/
namespace PL
open PySem PySem.Spec L2
open Enc (enc)

variable {Γ Γ' Γ'' Γb Γc ρ τ α β γ' δ ι : Type} {X : Cx} {sl : Γ → Sl} {sl' : Γ' → Sl} {sl'' : Γ'' → Sl} {slb : Γb → Sl} {slc : Γc → Sl} {e a b c d : Expr} {es : List Expr} {k k1 k2 k3 : Kd} {pos : Pos} {kr : Kd} {st : Stmt} {sts sts2 : List Stmt}

/-! ### an owned list changed -/
theorem EnvS.chg {K : PySem.W.Frag} {S0 S : Ad} {H : Hp} {l : Sl} {σ : L2.St} {i : Nat} {d d' : PyData} {a : Addr} {u : HO} (E : EnvS K S0 S H l σ) (hi : l[i]? = some (some (.o, d))) (hv : σ[i]? = some (some (.ref a))) (hS : S a)
    (new : Mv S H S (upd H a u) → Ow K (upd H a u) (un S S0) d' a) : Mv S H S (upd H a u) ∧ EnvS K S0 S (upd H a u) (l.set i (some (.o, d'))) σ := by
  have mv : Mv S H S (upd H a u) := fun b o h n => ⟨by rw [upd_ne fun z => n (by rw [z]; exact hS)]; exact h, n⟩
  have nn : ∀ b, H b ≠ none → upd H a u b ≠ none := fun b h => by
    by_cases hb : b = a
    · subst hb; rw [upd_same]; simp
    · rw [upd_ne hb]; exact h
  refine ⟨mv, by simp [E.len], fun b h => nn b (E.dS b h), fun b h => nn b (E.d0 b h), E.ap, fun j m e h => ?_, fun j j' e e' w hij hj hj' hw => ?_⟩
  · rcases set_get h with ⟨rfl, e1, hl⟩ | ⟨hne, h⟩
    · cases e1
      exact ⟨_, hv, a, rfl, hS, new mv⟩
    · obtain ⟨w, h1, h2⟩ := E.at_ j m e h
      refine ⟨w, h1, ?_⟩
      cases m with
      | a => exact Rp.mv mv.un _ _ h2
      | b => exact Rbs.mv mv h2
      | o =>
        obtain ⟨q, rfl, h2, h3⟩ := h2
        have hq : q ≠ a := fun z => E.one i j d e _ hne hi h hv (z ▸ h1)
        refine ⟨q, rfl, h2, ?_⟩
        rcases h3 with ⟨ds, xs, e1, e2, e3⟩ | ⟨ds, xs, e1, e2, e3⟩
        · exact .inl ⟨ds, xs, e1, by rw [upd_ne hq]; exact e2, e3.mv mv.un⟩
        · exact .inr ⟨ds, xs, e1, by rw [upd_ne hq]; exact e2, e3.mv mv.un⟩
  · have oo : ∀ {j : Nat} {e : PyData}, (l.set i (some (.o, d')))[j]? = some (some (.o, e)) → ∃ e', l[j]? = some (some (.o, e')) := fun h => by
      rcases set_get h with ⟨rfl, _, _⟩ | ⟨_, h⟩
      · exact ⟨_, hi⟩
      · exact ⟨_, h⟩
    obtain ⟨x, hx⟩ := oo hj
    obtain ⟨y, hy⟩ := oo hj'
    exact E.one j j' x y w hij hx hy hw
def push (l : List τ) (t : τ) : Option (List τ) := if l.length < sizeLine then some (l ++ [t]) else none
section
variable [Enc ρ] [Enc τ] {f : Γ → Option τ} {i : Nat} {x : Str} {p0 : Pos} {apos cpos : Pos}
/-- x.append(e), x owned -/
theorem sv_app (q : Γ → List τ) (set : Γ → List τ → Γ') (hq : ∀ g, (sl g)[i]? = some (some (.o, enc (q g)))) (h : ∀ g t, sl' (set g t) = (sl g).set i (some (.o, enc t))) (he : PV X sl .a e f) (hN : X.N[i]? = some x := by rfl)
    (hv : Vis X.env.scope x := by first | exact Or.inl rfl | exact Or.inr (Or.inl rfl) | exact Or.inr (Or.inr rfl)) (hd : (x == ("__debug__" : Str)) = false := by decide) (hcd : (x == ("__classdict__" : Str)) = false := by decide)
    (hbase : attributeBase (.Name x p0) "append" X.env (eval (.Name x p0) X.env) = eval (.Name x p0) X.env := by rfl)
    (hfew : ((backTo cpos (starEach [e] X.env)).all (fun x => !x.1) && (backToKw cpos (keywordEach [] X.env)).all (fun x => x.1.isSome)
      && decide ([e].length + ([] : List Keyword).length + (if ([] : List Keyword).isEmpty then 0 else 1) < 30)) = true := by rfl)
    (hline : (apos.endLine == cpos.line) = true := by rfl) (hs1 : starEach [e] X.env = (false, eval e X.env) :: starEach [] X.env := by rfl) (hplain : (backTo cpos (starEach [] X.env)).any (·.1) = false := by rfl)
    (hs : swapsWith (.Call (.Attribute (.Name x p0) "append" apos) [e] [] cpos) none pos.line X.env = pure false := by rfl) :
    SV (ρ := ρ) X sl sl' kr (.Expr (.Call (.Attribute (.Name x p0) "append" apos) [e] [] cpos) pos) (fun g => (f g).bind fun t => (push (q g) t).bind fun l => some (.nx (set g l))) :=
  PS.imp (ps_expr (pe_bm PySem.F.plainAttrs_list PySem.F.slot_list_append PySem.F.type_list_append mt_append (pe_var (i := i) hN hv hd hcd) (pa_cons he pa_nil hs1) hbase hfew hline hs1 hplain) hs) fun D σ H ⟨γ, S0, S, o, E, hf, p⟩ => by
    obtain ⟨t, e1, e2⟩ := bind1 hf
    obtain ⟨l, e3, e4⟩ := bind1 e2
    cases e4
    obtain ⟨hz, rfl⟩ := if_some e3
    obtain ⟨v, h1, a, rfl, h2, h3⟩ := E.at_ i _ _ (hq γ)
    rcases h3 with ⟨ds, xs, e1', e2', e3'⟩ | ⟨_, _, e1', _⟩
    · cases e1'
      refine ⟨_, h1, .inl ⟨rfl, xs, .inl (.inl e2')⟩, γ, S0, S, t, E, e1, fun y H1 s1 r1 => ?_⟩
      have E1 := E.same s1
      have hH1 := s1 _ _ e2'
      have hx : RpA X.K H1 (un S S0) ((q γ).map enc) xs := e3'.mv (.same s1)
      refine ⟨a, xs, y, rfl, rfl, hH1, by rw [map_len hx]; exact hz, ?_⟩
      obtain ⟨mv, E2⟩ := E1.chg (u := .lst (xs ++ [y])) (d' := enc (q γ ++ [t])) (hq γ) h1 h2 fun mv => .inl ⟨_, _, rfl, upd_same, by
        rw [List.map_append]
        exact (hx.mv mv.un).append (.one (Rp.mv mv.un _ _ r1))⟩
      refine p _ _ S ?_ ((Mv.same s1).trans mv)
      rw [h]
      exact E2
    · cases e1'
/-- x[j] = e, x an owned list -/
def lSet (l : List τ) (j : Int) (t : τ) : Option (List τ) := (ixN l.length j).bind fun n => some (l.set n t)
theorem sv_put {g : Γ → Option Int} {jx : Expr} {ipos : Pos} (q : Γ → List τ) (set : Γ → List τ → Γ') (hq : ∀ g, (sl g)[i]? = some (some (.o, enc (q g)))) (h : ∀ g t, sl' (set g t) = (sl g).set i (some (.o, enc t))) (he : PV X sl .a e f) (hj : PV X sl .b jx g) (hN : X.N[i]? = some x := by rfl)
    (hv : Vis X.env.scope x := by first | exact Or.inl rfl | exact Or.inr (Or.inl rfl) | exact Or.inr (Or.inr rfl)) (hd : (x == ("__debug__" : Str)) = false := by decide) (hcd : (x == ("__classdict__" : Str)) = false := by decide)
    (ha : ∀ v, assign (.Subscript (.Name x p0) jx ipos) X.env v = (do
      let ov ← holding [v] (eval (.Name x p0) X.env)
      let iv ← holding [v, ov] (eval jx X.env)
      standAt ipos
      holding [v, ov, iv] (setItem ov iv v)
      release [v, ov, iv] []) := by intro _; rfl)
    (hs : swapsWithSole [.Subscript (.Name x p0) jx ipos] e pos.line X.env = pure false := by rfl) (hw : swappedStores [.Subscript (.Name x p0) jx ipos] e X.env = pure none := by rfl)
    (h1 : (assignEach [.Subscript (.Name x p0) jx ipos] X.env).map (·.2) = [assign (.Subscript (.Name x p0) jx ipos) X.env] := by rfl) :
    SV (ρ := ρ) X sl sl' kr (.Assign [.Subscript (.Name x p0) jx ipos] e pos) (fun s => (f s).bind fun t => (g s).bind fun j => (lSet (q s) j t).bind fun l => some (.nx (set s l))) :=
  PS.imp (ps_asg he (pg_sub (pe_var (i := i) hN hv hd hcd) hj set_list ha) hs hw h1) fun D σ H ⟨γ, S0, S, o, E, hf, p⟩ => by
    obtain ⟨t, j, e1, e2, e3⟩ := bind2 hf
    obtain ⟨l, e4, e5⟩ := bind1 e3
    cases e5
    obtain ⟨n, e6, e7⟩ := bind1 e4
    cases e7
    refine ⟨γ, S0, S, t, E, e1, fun y H1 s1 r1 => ?_⟩
    have E1 := E.same s1
    obtain ⟨v, h1, a, rfl, h2, h3⟩ := E1.at_ i _ _ (hq γ)
    refine ⟨_, h1, γ, S0, S, j, E1, e2, fun z H2 s2 r2 => ?_⟩
    have E2 := E1.same s2
    rcases h3 with ⟨ds, xs, e1', e2', e3'⟩ | ⟨_, _, e1', _⟩
    · cases e1'
      have hx : RpA X.K H2 (un S S0) ((q γ).map enc) xs := e3'.mv (.same s2)
      refine ⟨a, xs, j, n, rfl, rb_i r2, s2 _ _ e2', by rw [map_len hx]; exact e6, ?_⟩
      obtain ⟨mv, E3⟩ := E2.chg (u := .lst (xs.set n y)) (d' := enc ((q γ).set n t)) (hq γ) h1 h2 fun mv => .inl ⟨_, _, rfl, upd_same, by
        rw [List.map_set]
        exact (hx.mv mv.un).set n (Rp.mv (Mv.trans (.same s2) mv.un) _ _ r1)⟩
      refine p _ _ S ?_ ((Mv.same (s1.trans s2)).trans mv)
      rw [h]
      exact E3
    · cases e1'
end

/-! ### targets -/
def wipeS (l : Sl) : List Nat → Sl
  | [] => l
  | v :: vs => (wipeS l vs).set v none
theorem wipeS_len (l : Sl) : ∀ vs : List Nat, (wipeS l vs).length = l.length
  | [] => rfl
  | v :: vs => by unfold wipeS; rw [List.length_set, wipeS_len l vs]
theorem wipeS_get {l : Sl} : ∀ {vs : List Nat} {i : Nat} {x : Mo × PyData}, (wipeS l vs)[i]? = some (some x) → l[i]? = some (some x) ∧ i ∉ vs
  | [], i, x, h => ⟨h, by simp⟩
  | v :: vs, i, x, h => by
    unfold wipeS at h
    rcases set_get h with ⟨_, e, _⟩ | ⟨hne, h⟩
    · cases e
    · obtain ⟨h1, h2⟩ := wipeS_get h
      exact ⟨h1, by simp only [List.mem_cons, not_or]; exact ⟨fun e => hne e.symm, h2⟩⟩
theorem wipe_in {σ : L2.St} {i : Nat} : ∀ {vs : List Nat}, i ∈ vs → i < σ.length → (wipe σ vs)[i]? = some none
  | v :: vs, h, hl => by
    unfold wipe
    by_cases hi : v = i
    · subst hi
      rw [List.getElem?_set_self (by rw [wipe_length]; exact hl)]
    · rw [List.getElem?_set_ne hi]
      rcases List.mem_cons.mp h with e | h
      · exact absurd e.symm hi
      · exact wipe_in h hl
theorem wipe_eq {σ σ' : L2.St} {vs : List Nat} (hl : σ'.length = σ.length) (h : ∀ i, i ∉ vs → σ'[i]? = σ[i]?) : wipe σ' vs = wipe σ vs := by
  apply List.ext_getElem?
  intro i
  by_cases hi : i ∈ vs
  · by_cases hn : i < σ.length
    · rw [wipe_in hi hn, wipe_in hi (by rw [hl]; exact hn)]
    · rw [List.getElem?_eq_none (by rw [wipe_length]; omega), List.getElem?_eq_none (by rw [wipe_length]; omega)]
  · rw [wipe_out hi, wipe_out hi, h i hi]
theorem wipe_set {σ : L2.St} {vs : List Nat} {j : Nat} {y : Option V} (h : j ∈ vs) : wipe (σ.set j y) vs = wipe σ vs :=
  wipe_eq (by simp) fun i hi => by rw [List.getElem?_set_ne]; exact fun e => hi (e ▸ h)
theorem wipe_wipe {σ : L2.St} {vs : List Nat} : wipe (wipe σ vs) vs = wipe σ vs := wipe_eq (wipe_length σ vs) fun i hi => wipe_out hi
theorem EnvS.wipe {K : PySem.W.Frag} {S0 S : Ad} {H : Hp} {l : Sl} {σ : L2.St} (E : EnvS K S0 S H l σ) (vs : List Nat) : EnvS K S0 S H (wipeS l vs) (L2.wipe σ vs) := by
  refine ⟨by rw [wipeS_len, wipe_length]; exact E.len, E.dS, E.d0, E.ap, fun i m d h => ?_, fun i j d e v hij hi hj hv => ?_⟩
  · obtain ⟨h1, h2⟩ := wipeS_get h
    rw [wipe_out h2]
    exact E.at_ i m d h1
  · obtain ⟨h1, h2⟩ := wipeS_get hi
    obtain ⟨h3, h4⟩ := wipeS_get hj
    rw [wipe_out h2] at hv
    rw [wipe_out h4]
    exact E.one i j d e v hij h1 h3 hv
/-- a value for a target: what is stored is told by set, at the slots js -/
def tG [Enc ι] (K : PySem.W.Frag) (sl : Γ → Sl) (slb : Γb → Sl) (set : Γ → ι → Γb) (js : List Nat) : TG := fun v σ H Q =>
  ∃ (g : Γ) (S0 S : Ad) (x : ι), EnvS K S0 S H (sl g) σ ∧ Rp K H (un S S0) (enc x) v ∧ ∀ σ', EnvS K S0 S H (slb (set g x)) σ' → (∀ vs : List Nat, (∀ i ∈ js, i ∈ vs) → wipe σ' vs = wipe σ vs) → Q σ' H
def GV [Enc ι] (X : Cx) (sl : Γ → Sl) (slb : Γb → Sl) (tg : Expr) (set : Γ → ι → Γb) (js : List Nat) : Prop := PG X tg (tG X.K sl slb set js)
theorem PG.imp {X : Cx} {tg : Expr} {t t' : TG} (h : PG X tg t) (i : ∀ v σ H Q, t' v σ H Q → t v σ H Q) : PG X tg t' := ⟨fun pins s σ H v u Q I r q => h.run pins s σ H v u Q I r (i v σ H Q q)⟩
theorem PGs.imp {X : Cx} {tg : List Expr} {t t' : TGs} (h : PGs X tg t) (i : ∀ v σ H Q, t' v σ H Q → t v σ H Q) : PGs X tg t' := ⟨fun pins s σ H v u Q I r q => h.run pins s σ H v u Q I r (i v σ H Q q)⟩
theorem gv_name [Enc ι] {set : Γ → ι → Γb} {i : Nat} {x : Str} (h : ∀ g t, slb (set g t) = (sl g).set i (some (.a, enc t))) (hN : X.N.Nodup) (hi : X.N[i]? = some x := by rfl) (hx : Loc X.env.scope x := by first | exact .inl rfl | exact .inr rfl)
    (hf : X.fn x = true ∨ X.env.scope.names.lookup x = some .local := by first | exact .inl rfl | exact .inr rfl) : GV X sl slb (.Name x pos) set [i] := PG.imp (pg_name hN hi hx hf) fun v σ H Q ⟨g, S0, S, x, E, r, q⟩ => by
  refine q _ ?_ fun vs hv => wipe_set (hv i (by simp))
  rw [h]
  exact E.seta r
/-- targets one after another -/
def tGs (K : PySem.W.Frag) (sl : Γ → Sl) (slb : Γb → Sl) (ds : ι → List PyData) (set : Γ → ι → Γb) (js : List Nat) : TGs := fun vs σ H Q =>
  ∃ (g : Γ) (S0 S : Ad) (x : ι), EnvS K S0 S H (sl g) σ ∧ RpA K H (un S S0) (ds x) vs ∧ ∀ σ', EnvS K S0 S H (slb (set g x)) σ' → (∀ vs : List Nat, (∀ i ∈ js, i ∈ vs) → wipe σ' vs = wipe σ vs) → Q σ' H
theorem gvs_nil : PGs X [] (tGs (ι := ι) X.K sl sl (fun _ => []) (fun g _ => g) []) := PGs.imp pgs_nil fun vs σ H Q ⟨g, S0, S, x, E, r, q⟩ => ⟨r, q σ E fun _ _ => rfl⟩
theorem gvs_cons [Enc α] {e : Expr} {es : List Expr} {slm : Γ' → Sl} {set1 : Γ → α → Γ'} {set2 : Γ' → β → Γb} {js1 js2 : List Nat} {ds : β → List PyData} {p1 : ι → α} {p2 : ι → β} (h1 : GV X sl slm e set1 js1) (h2 : PGs X es (tGs X.K slm slb ds set2 js2))
    (hs : (assignEach (e :: es) X.env).map (·.2) = assign e X.env :: (assignEach es X.env).map (·.2) := by rfl) :
    PGs X (e :: es) (tGs X.K sl slb (fun x => enc (p1 x) :: ds (p2 x)) (fun g x => set2 (set1 g (p1 x)) (p2 x)) (js1 ++ js2)) := PGs.imp (pgs_cons h1 h2 hs) fun vs σ H Q ⟨g, S0, S, x, E, r, q⟩ => by
  obtain ⟨v, ws, rfl, r1, r2⟩ := r
  refine ⟨v, ws, rfl, g, S0, S, p1 x, E, r1, fun σ1 E1 w1 => ⟨_, S0, S, p2 x, E1, r2, fun σ2 E2 w2 => q σ2 E2 fun vs hv => ?_⟩⟩
  rw [w2 vs fun i hi => hv i (by simp [hi]), w1 vs fun i hi => hv i (by simp [hi])]
theorem gv_tup [Enc ι] {es : List Expr} {kk n : Nat} {set : Γ → ι → Γb} {js : List Nat} (ds : ι → List PyData) (hd : ∀ x, enc x = .tuple (ds x)) (hl : ∀ x, (ds x).length = n) (h : PGs X es (tGs X.K sl slb ds set js)) (hc : X.calm = true := by rfl)
    (hn : (assignEach es X.env).length = n := by rfl) (hst : (assignEach es X.env).findIdx? (·.1) = none := by rfl) : GV X sl slb (.Tuple es kk pos) set js := PG.imp (pg_tup hc h hn hst) fun v σ H Q ⟨g, S0, S, x, E, r, q⟩ => by
  rw [hd] at r
  obtain ⟨a, xs, rfl, h1, h2⟩ := r
  exact ⟨a, xs, rfl, h1.sq, by rw [h2.length, hl], g, S0, S, x, E, h2, q⟩
/-- a, b = e -/
theorem sv_tup [Enc ρ] [Enc ι] {tg : Expr} {f : Γ → Option ι} {set : Γ → ι → Γ'} {js : List Nat} (hg : GV X sl sl' tg set js) (he : PV X sl .a e f) (hs : swapsWithSole [tg] e pos.line X.env = pure false := by rfl) (hw : swappedStores [tg] e X.env = pure none := by rfl)
    (h1 : (assignEach [tg] X.env).map (·.2) = [assign tg X.env] := by rfl) : SV (ρ := ρ) X sl sl' kr (.Assign [tg] e pos) (fun g => (f g).bind fun t => some (.nx (set g t))) :=
  PS.imp (ps_asg he hg hs hw h1) fun D σ H ⟨γ, S0, S, o, E, hf, p⟩ => by
    obtain ⟨t, e1, e2⟩ := bind1 hf
    cases e2
    exact ⟨γ, S0, S, t, E, e1, fun v H' s r => ⟨γ, S0, S, t, E.same s, r, fun σ' E' _ => p σ' H' S E' (.same s)⟩⟩
/-- a, b = x, y: two local names -/
theorem sv_par [Enc ρ] [Enc α] [Enc β] {i j : Nat} {x y : Str} {px py pt : Pos} {kt k2 : Nat} {pt2 : Pos} {fa : Γ → Option α} {fb : Γ → Option β} (set : Γ → α → β → Γ') (h : ∀ g t u, sl' (set g t u) = ((sl g).set i (some (.a, enc t))).set j (some (.a, enc u)))
    (hN : X.N.Nodup) (ha : PV X sl .a a fa) (hb : PV X sl .a b fb) (hij : i ≠ j := by decide) (hi : X.N[i]? = some x := by rfl) (hj : X.N[j]? = some y := by rfl) (hx : X.env.scope.names.lookup x = some .local := by rfl) (hy : X.env.scope.names.lookup y = some .local := by rfl) (hc : X.calm = true := by rfl)
    (h1 : starEach [a, b] X.env = (false, eval a X.env) :: starEach [b] X.env := by rfl) (h2 : starEach [b] X.env = (false, eval b X.env) :: starEach [] X.env := by rfl)
    (hw : swappedStores [.Tuple [.Name x px, .Name y py] kt pt] (.Tuple [a, b] k2 pt2) X.env = pure (some [x, y]) := by rfl)
    (hs : swapsWithSole [.Tuple [.Name x px, .Name y py] kt pt] (.Tuple [a, b] k2 pt2) pos.line X.env = pure false := by rfl) :
    SV (ρ := ρ) X sl sl' kr (.Assign [.Tuple [.Name x px, .Name y py] kt pt] (.Tuple [a, b] k2 pt2) pos) (fun g => (fa g).bind fun t => (fb g).bind fun u => some (.nx (set g t u))) :=
  PS.imp (ps_par hc hN hi hj hij hx hy (pa_cons ha (pa_cons hb pa_nil h2) h1) hw hs) fun D σ H ⟨γ, S0, S, o, E, hf, p⟩ => by
    obtain ⟨t, u, e1, e2, e3⟩ := bind2 hf
    cases e3
    refine ⟨γ, S0, S, t, E, e1, fun v H1 s1 r1 => ⟨γ, S0, S, u, E.same s1, e2, fun w H2 s2 r2 => ⟨v, w, rfl, ?_⟩⟩⟩
    refine p _ _ S ?_ (.same (s1.trans s2))
    rw [h]
    exact (((E.same s1).same s2).seta (Rp.mv (.same s2) _ _ r1)).seta r2

/-! ### what is walked -/
def ItOk [Enc ι] (K : PySem.W.Frag) (S0 S : Ad) (kd : Kd) (J : It) (H1 : Hp) (xs : List ι) : Prop :=
  ∀ (S2 : Ad) (H2 : Hp), Mv S H1 S2 H2 → (kd = .b → Same H1 H2) → (∀ a, un S2 S0 a → H2 a ≠ none) →
    (∀ i, xs.length ≤ i → J.stop i H2) ∧ ∀ i x, xs[i]? = some x → J.go i H2 ∧ ∀ v H3, J.yld i H2 v H3 → Same H2 H3 ∧ Rp K H3 (un S2 S0) (enc x) v
def tI [Enc ι] (K : PySem.W.Frag) (sl : Γ → Sl) (kd : Kd) (f : Γ → Option (List ι)) : TI := fun σ H R =>
  ∃ (g : Γ) (S0 S : Ad) (xs : List ι), EnvS K S0 S H (sl g) σ ∧ f g = some xs ∧ ∀ J H', Same H H' → ItOk K S0 S kd J H' xs → R J H'
def IV [Enc ι] (X : Cx) (sl : Γ → Sl) (kd : Kd) (tg it : Expr) (f : Γ → Option (List ι)) : Prop := PI X tg it (tI X.K sl kd f)
theorem IV.ab [Enc ι] {tg it : Expr} {f : Γ → Option (List ι)} (h : IV X sl .a tg it f) : IV X sl .b tg it f := PI.imp h fun σ H R ⟨g, S0, S, xs, E, hf, q⟩ =>
  ⟨g, S0, S, xs, E, hf, fun J H' s ok => q J H' s fun S2 H2 m _ d => ok S2 H2 m (fun z => nomatch z) d⟩
theorem ok_list [Enc ι] {K : PySem.W.Frag} {S0 S : Ad} {H1 : Hp} {xs : List ι} {a : Addr} {vs : List V} {kd : Kd} (h : ∀ S2 H2, Mv S H1 S2 H2 → (kd = .b → Same H1 H2) → SqL K H2 a vs) (r : RpA K H1 (un S S0) (xs.map enc) vs) : ItOk K S0 S kd (Itl K a) H1 xs := by
  intro S2 H2 m s d
  have h2 := h S2 H2 m s
  have r2 := r.mv m.un
  refine ⟨fun i hi => ⟨vs, h2, by rw [map_len r2]; exact hi⟩, fun i x hx => ?_⟩
  obtain ⟨v, e1, e2⟩ := map_get r2 hx
  refine ⟨⟨vs, v, h2, e1⟩, fun w H3 hy => ?_⟩
  obtain ⟨rfl, hy⟩ := hy
  have e3 := hy vs h2
  rw [e1] at e3
  cases e3
  exact ⟨Same.refl _, e2⟩
theorem piv_list [Enc ι] {tg : Expr} {f : Γ → Option (List ι)} (h : PV X sl .a e f) : IV X sl .a tg e f := PI.imp (pi_list h) fun σ H R ⟨g, S0, S, xs, E, hf, q⟩ => by
  refine ⟨g, S0, S, xs, E, hf, fun v H1 s1 r1 => ?_⟩
  obtain ⟨a, vs, rfl, h1, h2⟩ := r1
  exact ⟨a, rfl, ⟨vs, h1.sq⟩, q _ H1 s1 (ok_list (fun S2 H2 m _ => (h1.mv m.un).sq) h2)⟩
theorem sq_same {K : PySem.W.Frag} {H H' : Hp} {a : Addr} {xs : List V} (s : Same H H') (h : SqL K H a xs) : SqL K H' a xs := s.seq h
theorem piv_listb [Enc ι] {tg : Expr} {f : Γ → Option (List ι)} (h : PV X sl .b e f) : IV X sl .b tg e f := PI.imp (pi_list h) fun σ H R ⟨g, S0, S, xs, E, hf, q⟩ => by
  refine ⟨g, S0, S, xs, E, hf, fun v H1 s1 r1 => ?_⟩
  obtain ⟨a, vs, rfl, h1, h2⟩ := rb_l r1
  exact ⟨a, rfl, ⟨vs, h1⟩, q _ H1 s1 (ok_list (fun S2 H2 _ s => sq_same (s rfl) h1) h2)⟩
/-- lo, lo + 1, .. -/
def rng (lo : Int) (n : Nat) : List Int := (List.range n).map fun i : Nat => lo + i
theorem rng_len {lo : Int} {n : Nat} : (rng lo n).length = n := by unfold rng; simp
theorem rng_get {lo : Int} {n i : Nat} {x : Int} (h : (rng lo n)[i]? = some x) : i < n ∧ x = lo + i := by
  unfold rng at h
  rw [List.getElem?_map] at h
  by_cases hi : i < n
  · rw [List.getElem?_range hi] at h
    exact ⟨hi, (Option.some.inj h).symm⟩
  · rw [List.getElem?_eq_none (by simpa using hi)] at h
    cases h
theorem ok_rng {K : PySem.W.Frag} {S0 S : Ad} {H1 : Hp} {kd : Kd} {lo : Int} {n : Nat} : ItOk K S0 S kd (Itr lo n) H1 (rng lo n) := by
  intro S2 H2 m s d
  refine ⟨fun i hi => by rw [rng_len] at hi; exact hi, fun i x hx => ?_⟩
  obtain ⟨h1, rfl⟩ := rng_get hx
  refine ⟨h1, fun v H3 hy => ?_⟩
  obtain ⟨rfl, rfl⟩ := hy
  exact ⟨Same.refl _, rfl⟩
def inR (j : Int) : Prop := -(2 ^ 62) ≤ j ∧ j < 2 ^ 62
instance (j : Int) : Decidable (inR j) := by unfold inR; exact inferInstance
def rng1 (j : Int) : Option (List Int) := if inR j then some (rng 0 j.toNat) else none
def rng2 (i j : Int) : Option (List Int) := if inR i ∧ inR j then some (rng i (j - i).toNat) else none
section
variable {p : Pos} {fa fb : Γ → Option Int} {tg : Expr}
theorem piv_range1 (hg : Gl X "range") (hm : X.mg "range" = none) (ha : PV X sl .b a fa) (hs : starEach [a] X.env = [(false, eval a X.env)] := by rfl) : IV X sl .a tg (.Call (.Name "range" p) [a] [] pos) (fun s => (fa s).bind fun j => rng1 j) :=
  PI.imp (pi_range1 hg hm (pa_cons ha pa_nil hs) hs) fun σ H R ⟨g, S0, S, xs, E, hf, q⟩ => by
    obtain ⟨j, e1, e2⟩ := bind1 hf
    obtain ⟨h1, rfl⟩ := if_some e2
    refine ⟨g, S0, S, j, E, e1, fun v H1 s1 r1 => ⟨j, by rw [rb_i r1], h1.1, h1.2, q _ H1 s1 ok_rng⟩⟩
theorem piv_range2 (hg : Gl X "range") (hm : X.mg "range" = none) (ha : PV X sl .b a fa) (hb : PV X sl .b b fb) (hs : starEach [a, b] X.env = [(false, eval a X.env), (false, eval b X.env)] := by rfl) (hs2 : starEach [b] X.env = [(false, eval b X.env)] := by rfl) :
    IV X sl .a tg (.Call (.Name "range" p) [a, b] [] pos) (fun s => (fa s).bind fun i => (fb s).bind fun j => rng2 i j) :=
  PI.imp (pi_range2 hg hm (pa_cons ha (pa_cons hb pa_nil hs2) (by rw [hs, hs2])) hs hs2) fun σ H R ⟨g, S0, S, xs, E, hf, q⟩ => by
    obtain ⟨i, j, e1, e2, e3⟩ := bind2 hf
    obtain ⟨⟨h1, h2⟩, rfl⟩ := if_some e3
    exact ⟨g, S0, S, i, E, e1, fun v H1 s1 r1 => ⟨g, S0, S, j, E.same s1, e2, fun w H2 s2 r2 => ⟨i, j, by rw [rb_i r1, rb_i r2], ⟨h1.1, h1.2, h2.1, h2.2⟩, q _ H2 (s1.trans s2) ok_rng⟩⟩⟩
end
theorem piv_enum [Enc τ] {elts : List Expr} {kk : Nat} {p tpos : Pos} {f : Γ → Option (List τ)} (hg : Gl X "enumerate") (hm : X.mg "enumerate" = none) (ha : PV X sl .a a f) (hs : starEach [a] X.env = [(false, eval a X.env)] := by rfl) :
    IV X sl .a (.Tuple elts kk tpos) (.Call (.Name "enumerate" p) [a] [] pos) (fun s => (f s).bind fun l => some (l.zipIdx.map fun q => T2.mk (q.2 : Int) q.1)) :=
  PI.imp (pi_enum hg hm (pa_cons ha pa_nil hs) hs) fun σ H R ⟨g, S0, S, xs, E, hf, q⟩ => by
    obtain ⟨l, e1, e2⟩ := bind1 hf
    cases e2
    refine ⟨g, S0, S, l, E, e1, fun v H1 s1 r1 => ?_⟩
    obtain ⟨a, vs, rfl, h1, h2⟩ := r1
    refine ⟨a, vs, rfl, h1.sq, q _ H1 s1 fun S2 H2 m s d => ?_⟩
    have h3 := (h1.mv m.un).sq
    have r2 : RpA X.K H2 (un S2 S0) (l.map enc) vs := RpA.mv m.un _ _ h2
    refine ⟨fun i hi => ⟨vs, h3, by rw [map_len r2]; simpa using hi⟩, fun i x hx => ?_⟩
    obtain ⟨y, hy, rfl⟩ : ∃ y, l[i]? = some y ∧ x = T2.mk (i : Int) y := by
      rw [List.getElem?_map, List.getElem?_zipIdx] at hx
      cases h : l[i]? with
      | none => rw [h] at hx; cases hx
      | some y => rw [h] at hx; cases hx; exact ⟨y, rfl, by simp⟩
    obtain ⟨v, g1, g2⟩ := map_get r2 hy
    refine ⟨⟨vs, v, h3, g1⟩, fun w H3 hy => ?_⟩
    obtain ⟨T, z, rfl, hT, rfl, hz⟩ := hy
    have e3 := hz vs h3
    rw [g1] at e3
    cases e3
    exact ⟨same_new hT, rp_newT d hT ⟨_, _, rfl, rfl, .one g2⟩⟩
theorem piv_zip [Enc α] [Enc β] {elts : List Expr} {kk : Nat} {p tpos : Pos} {fa : Γ → Option (List α)} {fb : Γ → Option (List β)} (hg : Gl X "zip") (hm : X.mg "zip" = none) (ha : PV X sl .a a fa) (hb : PV X sl .a b fb)
    (hs : starEach [a, b] X.env = (false, eval a X.env) :: starEach [b] X.env := by rfl) (hs2 : starEach [b] X.env = (false, eval b X.env) :: starEach [] X.env := by rfl) (hpl : (backTo pos (starEach [b] X.env)).any (·.1) = false := by rfl) :
    IV X sl .a (.Tuple elts kk tpos) (.Call (.Name "zip" p) [a, b] [] pos) (fun s => (fa s).bind fun l => (fb s).bind fun r => some (List.zipWith T2.mk l r)) :=
  PI.imp (pi_zip hg hm (pa_cons ha (pa_cons hb pa_nil hs2) hs) hs hpl) fun σ H R ⟨g, S0, S, xs, E, hf, q⟩ => by
    obtain ⟨l, r, e1, e2, e3⟩ := bind2 hf
    cases e3
    refine ⟨g, S0, S, l, E, e1, fun v H1 s1 r1 => ⟨g, S0, S, r, E.same s1, e2, fun w H2 s2 r2 => ?_⟩⟩
    have r1 := Rp.mv (.same s2) _ _ r1
    obtain ⟨a, vs, rfl, h1, h2⟩ := r1
    obtain ⟨b, ws, rfl, h3, h4⟩ := r2
    refine ⟨a, b, vs, ws, rfl, h1.sq, h3.sq, q _ H2 (s1.trans s2) fun S2 H3 m s d => ?_⟩
    have g1 := (h1.mv m.un).sq
    have g3 := (h3.mv m.un).sq
    have g2 : RpA X.K H3 (un S2 S0) (l.map enc) vs := RpA.mv m.un _ _ h2
    have g4 : RpA X.K H3 (un S2 S0) (r.map enc) ws := RpA.mv m.un _ _ h4
    refine ⟨fun i hi => ⟨vs, ws, g1, g3, by rw [map_len g2, map_len g4]; rw [List.length_zipWith] at hi; omega⟩, fun i x hx => ?_⟩
    rw [List.getElem?_zipWith] at hx
    cases hl : l[i]? with
    | none => rw [hl] at hx; cases hx
    | some y =>
      cases hr : r[i]? with
      | none => rw [hl, hr] at hx; cases hx
      | some z =>
        rw [hl, hr] at hx
        cases hx
        obtain ⟨v, j1, j2⟩ := map_get g2 hl
        obtain ⟨w, j3, j4⟩ := map_get g4 hr
        refine ⟨⟨vs, ws, v, w, g1, g3, j1, j3⟩, fun u H4 hy => ?_⟩
        obtain ⟨T, y', z', rfl, hT, rfl, hy, hz⟩ := hy
        have e3 := hy vs g1
        have e4 := hz ws g3
        rw [j1] at e3
        rw [j3] at e4
        cases e3; cases e4
        exact ⟨same_new hT, rp_newT d hT ⟨_, _, rfl, j2, .one j4⟩⟩
theorem piv_str {tg : Expr} {f : Γ → Option Tx} (h : PV X sl .b e f) : IV X sl .a tg e (fun s => (f s).bind fun t => some (t.cs.map fun c => (⟨[c]⟩ : Tx))) := PI.imp (pi_str h) fun σ H R ⟨g, S0, S, xs, E, hf, q⟩ => by
  obtain ⟨t, e1, e2⟩ := bind1 hf
  cases e2
  refine ⟨g, S0, S, t, E, e1, fun v H1 s1 r1 => ⟨_, rb_t r1, q _ H1 s1 fun S2 H2 m s d => ?_⟩⟩
  refine ⟨fun i hi => by show Array.size _ ≤ i; simpa using hi, fun i x hx => ?_⟩
  rw [List.getElem?_map] at hx
  cases hc : t.cs[i]? with
  | none => rw [hc] at hx; cases hx
  | some c =>
    rw [hc] at hx
    cases hx
    obtain ⟨hl, _⟩ := List.getElem?_eq_some_iff.mp hc
    refine ⟨by show i < Array.size _; simpa using hl, fun v H3 hy => ?_⟩
    obtain ⟨rfl, c', hc', rfl⟩ := hy
    have e3 : t.cs[i]? = some c' := by simpa using hc'
    rw [hc] at e3
    cases e3
    exact ⟨Same.refl _, rfl⟩

/-! ### for -/
def forO (set : Γ → ι → Γb) (b : Γb → Option (Out Γ ρ)) : List ι → Γ → Option (Out Γ ρ)
  | [], g => some (.nx g)
  | x :: xs, g => seqO (b (set g x)) (forO set b xs)
theorem sv_for [Enc ρ] [Enc ι] {tg : Expr} {fi : Γ → Option (List ι)} {set : Γ → ι → Γb} {js : List Nat} {f : Γb → Option (Out Γ ρ)} (hp : PassesOwn (model X.prog X.w) X.A X.env X.xe) (hi : IV X sl .a tg e fi) (hg : GV X sl slb tg set js) (hb : BV X slb sl kr sts f) (hc : X.calm = true := by rfl)
    (hs : ∀ x, foldedSetIterable e X.env x = pure x := by intro _; rfl) : SV X sl sl kr (.For tg e sts [] pos) (fun g => (fi g).bind fun xs => forO set f xs g) :=
  PS.imp (ps_for hp hc hi hg hb hs) fun D σ H ⟨γ, S0, S, o, E, hf, p⟩ => by
    obtain ⟨xs, e1, e2⟩ := bind1 hf
    refine ⟨γ, S0, S, xs, E, e1, fun J H1 s1 ok => ?_⟩
    refine ⟨fun i m σ2 H2 => ∃ g2 S2, EnvS X.K S0 S2 H2 (sl g2) σ2 ∧ Mv S H1 S2 H2 ∧ i + m = xs.length ∧ forO set f (xs.drop i) g2 = some o ∧ Post X.K S0 S2 H2 sl kr D o,
      ⟨xs.length, γ, S, E.same s1, .refl, Nat.zero_add _, e2, p.back (.same s1)⟩, ?_⟩
    rintro i m σ2 H2 ⟨g2, S2, E2, mv, him, h2, p2⟩
    obtain ⟨hstop, hgo⟩ := ok S2 H2 mv (fun z => nomatch z) E2.dT
    cases hx : xs[i]? with
    | none =>
      have hi : xs.length ≤ i := List.getElem?_eq_none_iff.mp hx
      rw [List.drop_of_length_le hi] at h2
      cases h2
      exact .inl ⟨hstop i hi, p2 σ2 H2 S2 E2 .refl⟩
    | some x =>
      obtain ⟨hi, ex⟩ := List.getElem?_eq_some_iff.mp hx
      obtain ⟨hg1, hy⟩ := hgo i x hx
      rw [List.drop_eq_getElem_cons hi, ex] at h2
      obtain ⟨o1, e3, e4⟩ := bind1 (show seqO (f (set g2 x)) (forO set f (xs.drop (i + 1))) = some o from h2)
      refine .inr ⟨hg1, fun σ' H' => ∃ g' S', EnvS X.K S0 S' H' (sl g') σ' ∧ Mv S H1 S' H' ∧ forO set f (xs.drop (i + 1)) g' = some o ∧ Post X.K S0 S' H' sl kr D o, fun σ' H' ⟨g', S', q1, q2, q3, q4⟩ => ⟨m - 1, by omega, g', S', q1, q2, by omega, q3, q4⟩, fun v H3 yl => ?_⟩
      obtain ⟨s3, r3⟩ := hy v H3 yl
      refine ⟨g2, S0, S2, x, E2.same s3, r3, fun σ3 E3 _ => ⟨_, S0, S2, o1, E3, e3, ?_⟩⟩
      have p3 : Post X.K S0 S2 H3 sl kr D o := p2.back (.same s3)
      have mv3 : Mv S H1 S2 H3 := mv.trans (.same s3)
      cases o1 with
      | nx g' => exact fun σ' H' S' E' m' => ⟨g', S', E', mv3.trans m', e4, p3.back m'⟩
      | rt r =>
        cases e4
        exact p3

/-! ### comprehensions -/
def tBs (K : PySem.W.Frag) (sl : Γ → Sl) (f : Γ → Option Bool) : TT := tB K sl f
def PBs (X : Cx) (sl : Γ → Sl) (ifs : List Expr) (f : Γ → Option Bool) : Prop := PTs X ifs (tB X.K sl f)
theorem pbs_nil : PBs X sl [] (fun _ => some true) := PTs.imp pts_nil fun σ H Q ⟨g, S0, S, t, E, hf, q⟩ => by
  cases hf
  exact q H (Same.refl H)
theorem pbs_one {f : Γ → Option Bool} (h : PB X sl e f) : PBs X sl [e] f := PTs.imp (pts_one h) fun σ H Q h => h
def compO (t : Γb → Option Bool) (f : Γb → Option τ) (set : ι → Γb) : List ι → Option (List τ)
  | [] => some []
  | x :: xs => (t (set x)).bind fun c => if c = true then (f (set x)).bind fun y => (compO t f set xs).bind fun ys => some (y :: ys) else compO t f set xs
/-- within a comprehension what is owned is borrowed -/
def toB : Option (Mo × PyData) → Option (Mo × PyData)
  | some (.o, d) => some (.b, d)
  | x => x
def wipeB (l : Sl) (vs : List Nat) : Sl := wipeS (l.map toB) vs
theorem toB_get {l : Sl} {i : Nat} {m : Mo} {d : PyData} (h : (l.map toB)[i]? = some (some (m, d))) : (l[i]? = some (some (m, d)) ∧ m ≠ .o) ∨ (m = .b ∧ l[i]? = some (some (.o, d))) := by
  rw [List.getElem?_map] at h
  cases e : l[i]? with
  | none => rw [e] at h; cases h
  | some x =>
    rw [e] at h
    cases x with
    | none => cases h
    | some y =>
      obtain ⟨m', d'⟩ := y
      cases m' with
      | a => cases h; exact .inl ⟨rfl, nofun⟩
      | b => cases h; exact .inl ⟨rfl, nofun⟩
      | o => cases h; exact .inr ⟨rfl, rfl⟩
def isA (p : Addr) : Ad := fun a => a = p
/-- into a comprehension whose list is at D -/
theorem EnvS.into {K : PySem.W.Frag} {S0 S : Ad} {H H' : Hp} {l : Sl} {σ : L2.St} {p : Addr} (E : EnvS K S0 S H l σ) (s : Same H H') (hp : H p = none) (hp' : H' p ≠ none) (vs : List Nat) : EnvS K (un S S0) (isA p) H' (wipeB l vs) (L2.wipe σ vs) := by
  have mv : Mv (un S S0) H (un (isA p) (un S S0)) H' := fun a o h n => ⟨s a o h, fun z => z.elim (ne_of_none h hp) n⟩
  have top : ∀ {a : Addr} {u : HO}, Rd H a u → Rd H' a u ∧ ¬ isA p a := fun {a u} h => by
    rcases h with h | ⟨o, h⟩
    · exact ⟨.inl (s _ _ h), ne_of_none h hp⟩
    · exact ⟨.inr ⟨o, s _ _ h⟩, ne_of_none h hp⟩
  have noO : ∀ {i : Nat} {d : PyData}, (l.map toB)[i]? ≠ some (some (.o, d)) := fun h => by
    rcases toB_get h with ⟨_, z⟩ | ⟨z, _⟩
    · exact z rfl
    · cases z
  refine ⟨by unfold wipeB; rw [wipeS_len, wipe_length, List.length_map]; exact E.len, fun a h => ?_, fun a h => nn_same s (E.dT a h), fun a h z => ?_, fun i m d h => ?_, fun i j d e v hij hi hj hv => ?_⟩
  · have h : a = p := h
    rw [h]; exact hp'
  · have h : a = p := h
    rw [h] at z
    exact E.dT p z hp
  · obtain ⟨h1, h2⟩ := wipeS_get h
    rw [wipe_out h2]
    rcases toB_get h1 with ⟨h3, h4⟩ | ⟨rfl, h3⟩
    · obtain ⟨v, h5, h6⟩ := E.at_ i m d h3
      refine ⟨v, h5, ?_⟩
      cases m with
      | a => exact Rp.mv mv _ _ h6
      | b =>
        rcases h6 with h6 | ⟨ds, a, xs, e1, e2, e3, e4⟩ | ⟨ds, a, xs, e1, e2, e3, e4⟩
        · exact .inl (Rp.mv mv _ _ h6)
        · exact .inr (.inl ⟨ds, a, xs, e1, e2, top e3.1, e4.mv mv⟩)
        · exact .inr (.inr ⟨ds, a, xs, e1, e2, top e3.1, e4.mv mv⟩)
      | o => exact absurd rfl h4
    · obtain ⟨v, h5, a, rfl, h6, h7⟩ := E.at_ i _ d h3
      refine ⟨_, h5, ?_⟩
      rcases h7 with ⟨ds, xs, e1, e2, e3⟩ | ⟨ds, xs, e1, e2, e3⟩
      · exact .inr (.inl ⟨ds, a, xs, e1, rfl, top (.inl e2), e3.mv mv⟩)
      · exact .inr (.inr ⟨ds, a, xs, e1, rfl, top (.inl e2), e3.mv mv⟩)
  · exact absurd (wipeS_get hi).1 noO
/-- the list under construction grows -/
theorem EnvS.upA {K : PySem.W.Frag} {S0 : Ad} {H : Hp} {l : Sl} {σ : L2.St} {p : Addr} {u : HO} (E : EnvS K S0 (isA p) H l σ) (nq : ∀ (i : Nat) (d : PyData), l[i]? ≠ some (some (.o, d))) : EnvS K S0 (isA p) (upd H p u) l σ := by
  have mv : Mv (isA p) H (isA p) (upd H p u) := fun a o h n => ⟨by rw [upd_ne n]; exact h, n⟩
  have nn : ∀ b, H b ≠ none → upd H p u b ≠ none := fun b h => by
    by_cases hb : b = p
    · subst hb; rw [upd_same]; simp
    · rw [upd_ne hb]; exact h
  refine ⟨E.len, fun a h => nn a (E.dS a h), fun a h => nn a (E.d0 a h), E.ap, fun i m d h => ?_, E.one⟩
  obtain ⟨v, h1, h2⟩ := E.at_ i m d h
  refine ⟨v, h1, ?_⟩
  cases m with
  | a => exact Rp.mv mv.un _ _ h2
  | b => exact Rbs.mv mv h2
  | o => exact absurd h (nq i d)
theorem EnvS.wipeB {K : PySem.W.Frag} {S0 S : Ad} {H : Hp} {l : Sl} {σ : L2.St} (E : EnvS K S0 S H l σ) (vs : List Nat) (nq : ∀ (i : Nat) (d : PyData), l[i]? ≠ some (some (.o, d))) : EnvS K S0 S H (PL.wipeB l vs) (L2.wipe σ vs) := by
  have e : l.map toB = l := by
    apply List.ext_getElem?
    intro i
    rw [List.getElem?_map]
    cases h : l[i]? with
    | none => rfl
    | some x =>
      cases x with
      | none => rfl
      | some y =>
        obtain ⟨m, d⟩ := y
        cases m with
        | a => rfl
        | b => rfl
        | o => exact absurd h (nq i d)
  unfold PL.wipeB
  rw [e]
  exact E.wipe vs
theorem compO_len {t : Γb → Option Bool} {f : Γb → Option τ} {set : ι → Γb} : ∀ {xs : List ι} {ys : List τ}, compO t f set xs = some ys → ys.length ≤ xs.length
  | [], ys, h => by cases h; exact Nat.le_refl _
  | x :: xs, ys, h => by
    obtain ⟨c, h1, h2⟩ := bind1 h
    cases c with
    | true =>
      obtain ⟨y, zs, h3, h4, h5⟩ := bind2 (show ((f (set x)).bind fun y => (compO t f set xs).bind fun ys => some (y :: ys)) = some ys from h2)
      cases h5
      exact Nat.succ_le_succ (compO_len h4)
    | false => exact Nat.le_succ_of_le (compO_len (show compO t f set xs = some ys from h2))
theorem lc_read [Enc ι] [Enc τ] {K : PySem.W.Frag} {vs : List Nat} {fi : Γ → Option (List ι)} {set : Γ → ι → Γb} {js : List Nat} {ft : Γb → Option Bool} {fe : Γb → Option τ} (hj : ∀ i ∈ js, i ∈ vs) {σ : L2.St} {H : Hp} {Q : VK}
    (h : tD K sl .f (fun g => (fi g).bind fun xs => (lNew xs).bind fun xs => compO ft fe (set g) xs) σ H Q) : tLc (tI K sl .b fi) (tG K (fun g => wipeB (sl g) vs) slb set js) (tB K slb ft) (tD K slb .a fe) vs σ H Q := by
  obtain ⟨γ, S0, S, r, E, hf, q⟩ := h
  obtain ⟨xs, e1, e2⟩ := bind1 hf
  obtain ⟨xs', e3, e4⟩ := bind1 e2
  obtain ⟨hz, rfl⟩ := if_some e3
  refine ⟨γ, S0, S, xs, E, e1, fun J H1 s1 ok => fun D hD => ?_⟩
  have E1 := E.same s1
  have mvD : ∀ H2, Same H1 H2 → Mv S H1 (wi S D) H2 := fun H2 s2 => fun a o h n => ⟨s2 a o h, fun z => z.elim n (ne_of_none h hD)⟩
  have hT : ∀ a, wi (un S S0) D a → un (isA D) (un S S0) a := fun a z => z.elim .inr .inl
  have hT2 : ∀ a, un (isA D) (un S S0) a → un (wi S D) S0 a := fun a z => by
    rcases z with z | z | z
    · exact .inl (.inr z)
    · exact .inl (.inl z)
    · exact .inr z
  refine ⟨fun i m H2 => Same H1 H2 ∧ i + m = xs.length ∧ ∃ (done : List τ) (acc : List V) (rest : List τ), H2 D = some (.lst acc) ∧ RpA K H2 (wi (un S S0) D) (done.map enc) acc ∧ done.length ≤ i ∧ compO ft fe (set γ) (xs.drop i) = some rest ∧ done ++ rest = r,
    ⟨xs.length, same_new hD, Nat.zero_add _, [], [], r, upd_same, rfl, Nat.le_refl _, e4, rfl⟩, ?_⟩
  rintro i m H2 ⟨s2, him, done, acc, rest, hacc, hrp, hdl, hrest, hr⟩
  have E2 := E1.into s2 hD (by rw [hacc]; simp) vs
  obtain ⟨hstop, hgo⟩ := ok (wi S D) H2 (mvD H2 s2) (fun _ => s2) (fun a z => E2.dT a (by
    rcases z with (z | z) | z
    · exact .inr (.inl z)
    · exact .inl z
    · exact .inr (.inr z)))
  cases hx : xs[i]? with
  | none =>
    have hi : xs.length ≤ i := List.getElem?_eq_none_iff.mp hx
    rw [List.drop_of_length_le hi] at hrest
    cases hrest
    rw [List.append_nil] at hr
    subst hr
    refine .inl ⟨hstop i hi, q _ H2 (s1.trans s2) ⟨D, rfl, s1.free hD, .inl ⟨_, acc, rfl, hacc, hrp⟩⟩⟩
  | some x =>
    obtain ⟨hi, ex⟩ := List.getElem?_eq_some_iff.mp hx
    obtain ⟨hg1, hy⟩ := hgo i x hx
    rw [List.drop_eq_getElem_cons hi, ex] at hrest
    obtain ⟨cnd, h3, h4⟩ := bind1 hrest
    refine .inr ⟨hg1, fun H' => Same H1 H' ∧ ∃ (done : List τ) (acc : List V) (rest : List τ), H' D = some (.lst acc) ∧ RpA K H' (wi (un S S0) D) (done.map enc) acc ∧ done.length ≤ i + 1 ∧ compO ft fe (set γ) (xs.drop (i + 1)) = some rest ∧ done ++ rest = r, fun H' h => ⟨m - 1, by omega, h.1, by omega, h.2⟩, fun v H3 yl => ?_⟩
    obtain ⟨s3, r3⟩ := hy v H3 yl
    refine ⟨γ, un S S0, isA D, x, E2.same s3, Rp.mv (.less hT2) _ _ r3, fun σ3 E3 hw => ⟨?_, ?_⟩⟩
    · rw [hw _ hj, wipe_wipe]
    · refine ⟨_, un S S0, isA D, cnd, E3, h3, fun H4 s4 => ?_⟩
      have s34 := s3.trans s4
      have hD4 : H4 D = some (.lst acc) := s34 _ _ hacc
      have hrp4 : RpA K H4 (wi (un S S0) D) (done.map enc) acc := hrp.mv (.same s34)
      cases cnd with
      | false => exact iteF ⟨s2.trans s34, done, acc, rest, hD4, hrp4, Nat.le_succ_of_le hdl, h4, hr⟩
      | true =>
        obtain ⟨y, ys, h5, h6, h7⟩ := bind2 (show ((fe (set γ x)).bind fun y => (compO ft fe (set γ) (xs.drop (i + 1))).bind fun ys => some (y :: ys)) = some rest from h4)
        cases h7
        refine iteT ⟨_, un S S0, isA D, y, E3.same s4, h5, fun w H5 s5 r5 => ?_⟩
        have hD5 : H5 D = some (.lst acc) := s5 _ _ hD4
        have hrp5 : RpA K H5 (wi (un S S0) D) (done.map enc) acc := hrp4.mv (.same s5)
        refine ⟨acc, hD5, by rw [map_len hrp5]; omega, ?_⟩
        have mv5 : Mv (wi (un S S0) D) H5 (wi (un S S0) D) (upd H5 D (.lst (acc ++ [w]))) := fun a o h n => ⟨by rw [upd_ne fun z => n (.inr z)]; exact h, n⟩
        refine ⟨fun a o h => ?_, done ++ [y], acc ++ [w], ys, upd_same, ?_, by rw [List.length_append]; exact Nat.succ_le_succ hdl, h6, by rw [List.append_assoc]; exact hr⟩
        · rw [upd_ne (ne_of_none h hD)]
          exact (s2.trans (s34.trans s5)) a o h
        · rw [List.map_append]
          exact (hrp5.mv mv5).append (.one (Rp.mv ((Mv.less hT).trans mv5) _ _ r5))
section
variable [Enc ι] [Enc τ] {elt tg iter : Expr} {ifs : List Expr} {scope : Scope} {own : List (Str × Nat)} {fi : Γ → Option (List ι)} {set : Γ → ι → Γb} {js : List Nat} {ft : Γb → Option Bool} {fe : Γb → Option τ}
theorem pv_lc (hN : X.N.Nodup)
    (hi : IV X sl .b tg iter fi) (ok : BlkOk X.N X.env.scope scope own) (hj : ∀ i ∈ js, i ∈ own.map (·.2))
    (hg : ∀ (s : Shared) (H : Hp) (C : Addr) (cl : List (Str × Addr)) (fp : List Addr), GV (X.blk s H scope (compEnvC scope cl C X.env) fp) (fun g => wipeB (sl g) (own.map (·.2))) slb tg set js)
    (ht : ∀ (s : Shared) (H : Hp) (C : Addr) (cl : List (Str × Addr)) (fp : List Addr), PBs (X.blk s H scope (compEnvC scope cl C X.env) fp) slb ifs ft)
    (he : ∀ (s : Shared) (H : Hp) (C : Addr) (cl : List (Str × Addr)) (fp : List Addr), PV (X.blk s H scope (compEnvC scope cl C X.env) fp) slb .a elt fe) (hc : X.calm = true := by rfl) (hs : ∀ x, foldedSetIterable iter X.env x = pure x := by intro _; rfl) :
    PV X sl .f (.ListComp elt [⟨tg, iter, ifs, 0⟩] scope pos) (fun g => (fi g).bind fun xs => (lNew xs).bind fun xs => compO ft fe (set g) xs) :=
  PE.imp (pe_lc (g := tG X.K (fun g => wipeB (sl g) (own.map fun q : Str × Nat => q.2)) slb set js) (tt := tB X.K slb ft) (te := tD X.K slb .a fe) hc hN hi ok hg ht he hs) fun σ H Q h => lc_read hj h
variable [Enc ρ] {i : Nat} {y : Str} {py spos : Pos}
/-- y = [..] on one line, y owned; y shared -/
theorem sv_ownLc (st : Γ → List τ → Γ') (h : ∀ g t, sl' (st g t) = (sl g).set i (some (.o, enc t))) (hN : X.N.Nodup)
    (hi : IV X sl .b tg iter fi) (ok : BlkOk X.N X.env.scope scope own) (hj : ∀ i ∈ js, i ∈ own.map (·.2))
    (hg : ∀ (s : Shared) (H : Hp) (C : Addr) (cl : List (Str × Addr)) (fp : List Addr), GV (X.blk s H scope (compEnvC scope cl C X.env) fp) (fun g => wipeB (sl g) (own.map (·.2))) slb tg set js)
    (ht : ∀ (s : Shared) (H : Hp) (C : Addr) (cl : List (Str × Addr)) (fp : List Addr), PBs (X.blk s H scope (compEnvC scope cl C X.env) fp) slb ifs ft)
    (he : ∀ (s : Shared) (H : Hp) (C : Addr) (cl : List (Str × Addr)) (fp : List Addr), PV (X.blk s H scope (compEnvC scope cl C X.env) fp) slb .a elt fe)
    (hy : X.N[i]? = some y := by rfl) (hyl : X.env.scope.names.lookup y = some .local := by rfl)
    (hsw : swapsWith (.ListComp elt [⟨tg, iter, ifs, 0⟩] scope pos) (some (.Name y py)) spos.line X.env = pure true := by exact sw_true rfl rfl rfl (by decide +kernel)) (hc : X.calm = true := by rfl) (hs : ∀ x, foldedSetIterable iter X.env x = pure x := by intro _; rfl) :
    SV (ρ := ρ) X sl sl' kr (.Assign [.Name y py] (.ListComp elt [⟨tg, iter, ifs, 0⟩] scope pos) spos) (fun g => ((fi g).bind fun xs => (lNew xs).bind fun xs => compO ft fe (set g) xs).bind fun t => some (.nx (st g t))) :=
  PS.imp (ps_setLc (g := tG X.K (fun g => wipeB (sl g) (own.map fun q : Str × Nat => q.2)) slb set js) (tt := tB X.K slb ft) (te := tD X.K slb .a fe) hc hN hy hyl hsw hi ok hg ht he hs) fun D σ H ⟨γ, S0, S, o, E, hf, p⟩ => by
    obtain ⟨t, e1, e2⟩ := bind1 hf
    cases e2
    refine lc_read hj ⟨γ, S0, S, t, E, e1, fun v H' s r => ?_⟩
    obtain ⟨S', m, E'⟩ := E.seto (i := i) s r
    refine p _ _ S' ?_ m
    rw [h]
    exact E'
theorem sv_setLc (st : Γ → List τ → Γ') (h : ∀ g t, sl' (st g t) = (sl g).set i (some (.a, enc t))) (hN : X.N.Nodup)
    (hi : IV X sl .b tg iter fi) (ok : BlkOk X.N X.env.scope scope own) (hj : ∀ i ∈ js, i ∈ own.map (·.2))
    (hg : ∀ (s : Shared) (H : Hp) (C : Addr) (cl : List (Str × Addr)) (fp : List Addr), GV (X.blk s H scope (compEnvC scope cl C X.env) fp) (fun g => wipeB (sl g) (own.map (·.2))) slb tg set js)
    (ht : ∀ (s : Shared) (H : Hp) (C : Addr) (cl : List (Str × Addr)) (fp : List Addr), PBs (X.blk s H scope (compEnvC scope cl C X.env) fp) slb ifs ft)
    (he : ∀ (s : Shared) (H : Hp) (C : Addr) (cl : List (Str × Addr)) (fp : List Addr), PV (X.blk s H scope (compEnvC scope cl C X.env) fp) slb .a elt fe)
    (hy : X.N[i]? = some y := by rfl) (hyl : X.env.scope.names.lookup y = some .local := by rfl)
    (hsw : swapsWith (.ListComp elt [⟨tg, iter, ifs, 0⟩] scope pos) (some (.Name y py)) spos.line X.env = pure true := by exact sw_true rfl rfl rfl (by decide +kernel)) (hc : X.calm = true := by rfl) (hs : ∀ x, foldedSetIterable iter X.env x = pure x := by intro _; rfl) :
    SV (ρ := ρ) X sl sl' kr (.Assign [.Name y py] (.ListComp elt [⟨tg, iter, ifs, 0⟩] scope pos) spos) (fun g => ((fi g).bind fun xs => (lNew xs).bind fun xs => compO ft fe (set g) xs).bind fun t => some (.nx (st g t))) :=
  PS.imp (ps_setLc (g := tG X.K (fun g => wipeB (sl g) (own.map fun q : Str × Nat => q.2)) slb set js) (tt := tB X.K slb ft) (te := tD X.K slb .a fe) hc hN hy hyl hsw hi ok hg ht he hs) fun D σ H ⟨γ, S0, S, o, E, hf, p⟩ => by
    obtain ⟨t, e1, e2⟩ := bind1 hf
    cases e2
    refine lc_read hj ⟨γ, S0, S, t, E, e1, fun v H' s r => ?_⟩
    refine p _ _ S ?_ (.same s)
    rw [h]
    exact (E.same s).seta (Fr.rp r E.dT)
end
/-! ### two clauses -/
def compO2 {Γc : Type} {κ : Type} (t : Γb → Option Bool) (it1 : Γb → Option (List κ)) (t1 : Γc → Option Bool) (f : Γc → Option τ) (set : ι → Γb) (set1 : Γb → κ → Γc) : List ι → Option (List τ)
  | [] => some []
  | x :: xs => (t (set x)).bind fun c => if c = true then (it1 (set x)).bind fun ys => (compO t1 f (set1 (set x)) ys).bind fun zs => (compO2 t it1 t1 f set set1 xs).bind fun r => some (zs ++ r) else compO2 t it1 t1 f set set1 xs
theorem lc2_read {κ : Type} [Enc ι] [Enc κ] [Enc τ] {K : PySem.W.Frag} {vs vs1 : List Nat} {fi : Γ → Option (List ι)} {set : Γ → ι → Γb} {js js1 : List Nat} {ft : Γb → Option Bool} {fi1 : Γb → Option (List κ)} {set1 : Γb → κ → Γc} {ft1 : Γc → Option Bool} {fe : Γc → Option τ} (hj : ∀ i ∈ js, i ∈ vs) (hj1 : ∀ i ∈ js1, i ∈ vs1) (hno : ∀ (g : Γb) (i : Nat) (d : PyData), (slb g)[i]? ≠ some (some (.o, d))) {σ : L2.St} {H : Hp} {Q : VK}
    (h : tD K sl .f (fun g => ((fi g).bind fun xs => compO2 ft fi1 ft1 fe (set g) set1 xs).bind fun r => lNew r) σ H Q) :
    tLc2 (tI K sl .b fi) (tG K (fun g => wipeB (sl g) vs) slb set js) (tB K slb ft) (tI K slb .a fi1) (tG K (fun g => wipeB (slb g) vs1) slc set1 js1) (tB K slc ft1) (tD K slc .a fe) vs vs1 σ H Q := by
  obtain ⟨γ, S0, S, r, E, hf, q⟩ := h
  obtain ⟨r', e0, e9⟩ := bind1 hf
  obtain ⟨hz, rfl⟩ := if_some e9
  obtain ⟨xs, e1, e4⟩ := bind1 e0
  refine ⟨γ, S0, S, xs, E, e1, fun J H1 s1 ok => fun D hD => ?_⟩
  have E1 := E.same s1
  have mvD : ∀ H2, Same H1 H2 → Mv S H1 (wi S D) H2 := fun H2 s2 => fun a o h n => ⟨s2 a o h, fun z => z.elim n (ne_of_none h hD)⟩
  have hT : ∀ a, wi (un S S0) D a → un (isA D) (un S S0) a := fun a z => z.elim .inr .inl
  have hT2 : ∀ a, un (isA D) (un S S0) a → un (wi S D) S0 a := fun a z => by
    rcases z with z | z | z
    · exact .inl (.inr z)
    · exact .inl (.inl z)
    · exact .inr z
  refine ⟨fun i m H2 => Same H1 H2 ∧ i + m = xs.length ∧ ∃ (done : List τ) (acc : List V) (rest : List τ), H2 D = some (.lst acc) ∧ RpA K H2 (wi (un S S0) D) (done.map enc) acc ∧ compO2 ft fi1 ft1 fe (set γ) set1 (xs.drop i) = some rest ∧ done ++ rest = r',
    ⟨xs.length, same_new hD, Nat.zero_add _, [], [], r', upd_same, rfl, e4, rfl⟩, ?_⟩
  rintro i m H2 ⟨s2, him, done, acc, rest, hacc, hrp, hrest, hr⟩
  have E2 := E1.into s2 hD (by rw [hacc]; simp) vs
  obtain ⟨hstop, hgo⟩ := ok (wi S D) H2 (mvD H2 s2) (fun _ => s2) (fun a z => E2.dT a (by
    rcases z with (z | z) | z
    · exact .inr (.inl z)
    · exact .inl z
    · exact .inr (.inr z)))
  cases hx : xs[i]? with
  | none =>
    have hi : xs.length ≤ i := List.getElem?_eq_none_iff.mp hx
    rw [List.drop_of_length_le hi] at hrest
    cases hrest
    rw [List.append_nil] at hr
    subst hr
    refine .inl ⟨hstop i hi, q _ H2 (s1.trans s2) ⟨D, rfl, s1.free hD, .inl ⟨_, acc, rfl, hacc, hrp⟩⟩⟩
  | some x =>
    obtain ⟨hi, ex⟩ := List.getElem?_eq_some_iff.mp hx
    obtain ⟨hg1, hy⟩ := hgo i x hx
    rw [List.drop_eq_getElem_cons hi, ex] at hrest
    obtain ⟨cnd, h3, h4⟩ := bind1 hrest
    refine .inr ⟨hg1, fun H' => Same H1 H' ∧ ∃ (done : List τ) (acc : List V) (rest : List τ), H' D = some (.lst acc) ∧ RpA K H' (wi (un S S0) D) (done.map enc) acc ∧ compO2 ft fi1 ft1 fe (set γ) set1 (xs.drop (i + 1)) = some rest ∧ done ++ rest = r', fun H' h => ⟨m - 1, by omega, h.1, by omega, h.2⟩, fun v H3 yl => ?_⟩
    obtain ⟨s3, r3⟩ := hy v H3 yl
    refine ⟨γ, un S S0, isA D, x, E2.same s3, Rp.mv (.less hT2) _ _ r3, fun σ3 E3 hw => ⟨?_, ?_⟩⟩
    · rw [hw _ hj, wipe_wipe]
    · refine ⟨_, un S S0, isA D, cnd, E3, h3, fun H4 s4 => ?_⟩
      have s34 := s3.trans s4
      have hD4 : H4 D = some (.lst acc) := s34 _ _ hacc
      have hrp4 : RpA K H4 (wi (un S S0) D) (done.map enc) acc := hrp.mv (.same s34)
      cases cnd with
      | false => exact iteF ⟨s2.trans s34, done, acc, rest, hD4, hrp4, h4, hr⟩
      | true =>
        obtain ⟨ys, h5, h4⟩ := bind1 (show ((fi1 (set γ x)).bind fun ys => (compO ft1 fe (set1 (set γ x)) ys).bind fun zs => (compO2 ft fi1 ft1 fe (set γ) set1 (xs.drop (i + 1))).bind fun r => some (zs ++ r)) = some rest from h4)
        obtain ⟨zs, rr, h6, h8, h9⟩ := bind2 h4
        cases h9
        refine iteT ⟨_, un S S0, isA D, ys, E3.same s4, h5, fun J1 H5 s5 ok1 => ?_⟩
        have hD5 : H5 D = some (.lst acc) := s5 _ _ hD4
        have hrp5 : RpA K H5 (wi (un S S0) D) (done.map enc) acc := hrp4.mv (.same s5)
        have E5 := (E3.same s4).same s5
        have s15 : Same H1 H5 := s2.trans (s34.trans s5)
        -- the inner walk: H5 and what D grew by
        refine ⟨fun j m H6 => Mv (isA D) H5 (isA D) H6 ∧ Same H1 H6 ∧ (∀ a, H5 a ≠ none → H6 a ≠ none) ∧ j + m = ys.length ∧ ∃ (dn : List τ) (ac : List V) (rs : List τ), H6 D = some (.lst ac) ∧ RpA K H6 (wi (un S S0) D) (dn.map enc) ac ∧ compO ft1 fe (set1 (set γ x)) (ys.drop j) = some rs ∧ dn ++ rs ++ rr = r' ∧ EnvS K (un S S0) (isA D) H6 (slb (set γ x)) σ3,
          ⟨ys.length, .refl, s15, fun _ z => z, Nat.zero_add _, done, acc, zs, hD5, hrp5, h6, by rw [List.append_assoc]; exact hr, E5⟩, ?_⟩
        rintro j m1 H6 ⟨mv6, s6, nn6, hjm, dn, ac, rs, hD6, hrp6, hrs, hr6, E6⟩
        obtain ⟨hstop1, hgo1⟩ := ok1 (isA D) H6 mv6 (fun z => nomatch z) E6.dT
        cases hy1 : ys[j]? with
        | none =>
          have hi1 : ys.length ≤ j := List.getElem?_eq_none_iff.mp hy1
          rw [List.drop_of_length_le hi1] at hrs
          cases hrs
          exact .inl ⟨hstop1 j hi1, s6, dn, ac, rr, hD6, hrp6, h8, by rw [List.append_nil] at hr6; exact hr6⟩
        | some y =>
          obtain ⟨hi1, ey⟩ := List.getElem?_eq_some_iff.mp hy1
          obtain ⟨hg2, hy2⟩ := hgo1 j y hy1
          rw [List.drop_eq_getElem_cons hi1, ey] at hrs
          obtain ⟨cn1, k3, k4⟩ := bind1 hrs
          refine .inr ⟨hg2, fun H' => Mv (isA D) H5 (isA D) H' ∧ Same H1 H' ∧ (∀ a, H5 a ≠ none → H' a ≠ none) ∧ ∃ (dn : List τ) (ac : List V) (rs : List τ), H' D = some (.lst ac) ∧ RpA K H' (wi (un S S0) D) (dn.map enc) ac ∧ compO ft1 fe (set1 (set γ x)) (ys.drop (j + 1)) = some rs ∧ dn ++ rs ++ rr = r' ∧ EnvS K (un S S0) (isA D) H' (slb (set γ x)) σ3, fun H' h => ⟨m1 - 1, by omega, h.1, h.2.1, h.2.2.1, by omega, h.2.2.2⟩, fun v H7 yl => ?_⟩
          obtain ⟨s7, r7⟩ := hy2 v H7 yl
          have E7 := E6.same s7
          refine ⟨_, un S S0, isA D, y, E7.wipeB vs1 (hno _), r7, fun σ8 E8 hw1 => ⟨?_, ?_⟩⟩
          · rw [hw1 _ hj1, wipe_wipe]
          · refine ⟨_, un S S0, isA D, cn1, E8, k3, fun H8 s8 => ?_⟩
            have s78 := s7.trans s8
            have hD8 : H8 D = some (.lst ac) := s78 _ _ hD6
            have hrp8 : RpA K H8 (wi (un S S0) D) (dn.map enc) ac := hrp6.mv (.same s78)
            cases cn1 with
            | false => exact iteF ⟨mv6.trans (.same s78), s6.trans s78, fun a z => nn_same s78 (nn6 a z), dn, ac, rs, hD8, hrp8, k4, hr6, E6.same s78⟩
            | true =>
              obtain ⟨t, ts, k5, k6, k7⟩ := bind2 (show ((fe (set1 (set γ x) y)).bind fun y => (compO ft1 fe (set1 (set γ x)) (ys.drop (j + 1))).bind fun ys => some (y :: ys)) = some rs from k4)
              cases k7
              refine iteT ⟨_, un S S0, isA D, t, E8.same s8, k5, fun u H9 s9 r9 => ?_⟩
              have s69 := s78.trans s9
              have hD9 : H9 D = some (.lst ac) := s9 _ _ hD8
              have hrp9 : RpA K H9 (wi (un S S0) D) (dn.map enc) ac := hrp8.mv (.same s9)
              refine ⟨ac, hD9, ?_, ?_⟩
              · rw [map_len hrp9]
                have : r'.length ≤ sizeLine := hz
                rw [← hr6] at this
                simp only [List.length_append, List.length_cons] at this
                omega
              · have mvA : Mv (wi (un S S0) D) H9 (wi (un S S0) D) (upd H9 D (.lst (ac ++ [u]))) := fun a o h n => ⟨by rw [upd_ne fun z => n (.inr z)]; exact h, n⟩
                have mvB : Mv (isA D) H9 (isA D) (upd H9 D (.lst (ac ++ [u]))) := fun a o h n => ⟨by rw [upd_ne n]; exact h, n⟩
                have s1' : Same H1 (upd H9 D (.lst (ac ++ [u]))) := fun a o h => by
                  rw [upd_ne (ne_of_none h hD)]
                  exact (s6.trans s69) a o h
                refine ⟨(mv6.trans (.same s69)).trans mvB, s1', fun a z => ?_, dn ++ [t], ac ++ [u], ts, upd_same, ?_, k6, by simpa using hr6, ?_⟩
                · by_cases ha : a = D
                  · subst ha; rw [upd_same]; simp
                  · rw [upd_ne ha]; exact nn_same s69 (nn6 a z)
                · rw [List.map_append]
                  exact (hrp9.mv mvA).append (.one (Rp.mv ((Mv.less hT).trans mvA) _ _ r9))
                · exact (E6.same s69).upA (hno _)
end PL

/-! PL8: defs and their calls. -/
namespace PL
open PySem PySem.Spec L2
open Enc (enc)

variable {Γ Γ' Γ'' ρ τ α β A B : Type} {X : Cx} {sl : Γ → Sl} {sl' : Γ' → Sl} {e : Expr} {es : List Expr} {k1 : Kd} {pos : Pos} {kr : Kd}

/-- a def's promise: the plain function F of its arguments; sl0 tells the arguments' slots -/
def spF [Enc ρ] (K : PySem.W.Frag) (N : List Str) (n : Nat) (sl0 : A → Sl) (kr : Kd) (F : A → Option ρ) : Sp := fun vs H Q _ =>
  vs.length = n ∧ ∃ (g : A) (S0 : Ad) (r : ρ), EnvS K S0 no H (sl0 g) (L2.start N vs) ∧ F g = some r ∧ ∀ v H', RetV kr K S0 no H H' (enc r) v → Q v H'
/-- what a body's plain reading gives its caller -/
def outF (d : Option ρ) (x : Option (Out Γ ρ)) : Option ρ := x.bind fun o => match o with
  | .rt r => some r
  | .nx _ => d
section
variable {P : Program} {w : World} {K : PySem.W.Frag} {mg : Str → Option Value} {base : Heap}
theorem fn_v [Enc ρ] {x qual : Str} {st : Stmt} {f : Addr} {fd : FuncData} {N ps : List Str} {k n : Nat} {sl0 : A → Sl} {slE : Γ → Sl} {fb : A → Option (Out Γ ρ)} {F : A → Option ρ} (dn : Option ρ) (Fn : Fun K x qual st f fd) (S : FnScope N ps (defScope st)) (hn : ps.length = n := by rfl)
    (hdn : ∀ r, dn = some r → enc r = .none) (hk : kr = .a ∨ kr = .f ∧ dn = none)
    (hF : ∀ g, F g = outF dn (fb g))
    (hb : ∀ (cdv : Value) (A : Around) (outer : List Env) (s : Shared) (H : Hp) (E : XK), Room k (A.deeper (PyProof.Rows.envOfC qual (defScope st) s.heap.objs.size f cdv)) →
      BV (cxOf CX0 P w K mg base N qual (defScope st) f cdv A outer s H E).nox sl0 slE kr (defBody st) fb) :
    FnOk P w K mg base CX0 (k + 1) f fd ps (spF K N n sl0 kr F) := by
  refine Fn.ok S (fun vs H Q E h => h.1.trans hn.symm) fun cdv A outer s H vs Q E hr h => ?_
  obtain ⟨hl, g, S0, r, En, hFr, q⟩ := h
  refine ⟨_, hb cdv A outer s H E hr, ?_⟩
  rw [hF] at hFr
  obtain ⟨o, h1, h2⟩ := bind1 hFr
  refine ⟨g, S0, no, o, En, h1, ?_⟩
  cases o with
  | rt r' =>
    cases h2
    exact q
  | nx g' =>
    have h2 : dn = some r := h2
    rcases hk with rfl | ⟨_, e⟩
    · exact fun σ' H' S' _ m => q .non H' ⟨m.no, by rw [hdn r h2]; rfl⟩
    · rw [e] at h2; cases h2
/-- a def that is never called with arguments for which F is told -/
theorem fn_none [Enc ρ] {f : Addr} {fd : FuncData} {N ps : List Str} {k n : Nat} {sl0 : A → Sl} {CX : CXT} (hn : ps.length = n := by rfl) : FnOk P w K mg base CX k f fd ps (spF K N n sl0 kr (fun _ : A => (none : Option ρ))) :=
  ⟨fun vs H Q E h => h.1.trans hn.symm, fun A outer s H args us vs Q E _ _ _ _ h => by
    obtain ⟨_, _, _, _, _, h, _⟩ := h
    cases h⟩
end

/-! ### arguments -/
def ArgV (K : PySem.W.Frag) (H : Hp) (T : Ad) : Mo → PyData → V → Prop
  | .a, d, v => Rp K H T d v
  | .b, d, v => Rb K H T d v
  | .o, _, _ => False
def ArgsR (K : PySem.W.Frag) (H : Hp) (T : Ad) : List Mo → List PyData → List V → Prop
  | [], [], [] => True
  | m :: ms, d :: ds, v :: vs => ArgV K H T m d v ∧ ArgsR K H T ms ds vs
  | _, _, _ => False
theorem ArgV.same {K : PySem.W.Frag} {H H' : Hp} {T : Ad} {m : Mo} {d : PyData} {v : V} (s : Same H H') (h : ArgV K H T m d v) : ArgV K H' T m d v := by
  cases m with
  | a => exact Rp.mv (.same s) _ _ h
  | b => exact Rb.mv (.same s) h s
  | o => exact h
def slOf : List Mo → List PyData → Sl
  | m :: ms, d :: ds => some (m, d) :: slOf ms ds
  | _, _ => []
theorem env_start {K : PySem.W.Frag} {H : Hp} {T : Ad} {ms : List Mo} {ds : List PyData} {vs : List V} {N : List Str} {j : Nat} (h : ArgsR K H T ms ds vs) (hT : ∀ a, T a → H a ≠ none) (hN : N.length = ms.length + j) :
    EnvS K T no H (slOf ms ds ++ List.replicate j none) (L2.start N vs) ∧ vs.length = ms.length := by
  have len : ∀ {ms : List Mo} {ds : List PyData} {vs : List V}, ArgsR K H T ms ds vs → vs.length = ms.length ∧ (slOf ms ds).length = ms.length := by
    intro ms
    induction ms with
    | nil =>
      intro ds vs h
      cases ds <;> cases vs <;> simp [ArgsR] at h
      exact ⟨rfl, rfl⟩
    | cons m ms ih =>
      intro ds vs h
      cases ds with
      | nil => simp [ArgsR] at h
      | cons d ds =>
        cases vs with
        | nil => simp [ArgsR] at h
        | cons v vs =>
          obtain ⟨h1, h2⟩ := ih h.2
          exact ⟨by simp [h1], by simp [slOf, h2]⟩
  have get : ∀ {ms : List Mo} {ds : List PyData} {vs : List V} {i : Nat} {m : Mo} {d : PyData}, ArgsR K H T ms ds vs → (slOf ms ds)[i]? = some (some (m, d)) → ∃ v, vs[i]? = some v ∧ ArgV K H T m d v := by
    intro ms
    induction ms with
    | nil => intro ds vs i m d h e; simp [slOf] at e
    | cons m0 ms ih =>
      intro ds vs i m d h e
      cases ds with
      | nil => simp [ArgsR] at h
      | cons d0 ds =>
        cases vs with
        | nil => simp [ArgsR] at h
        | cons v vs =>
          cases i with
          | zero =>
            have e : some (some (m0, d0)) = some (some (m, d)) := e
            cases e
            exact ⟨v, rfl, h.1⟩
          | succ i => exact ih (ds := ds) (vs := vs) (i := i) h.2 e
  obtain ⟨l1, l2⟩ := len h
  have at2 : ∀ {i : Nat} {m : Mo} {d : PyData}, (slOf ms ds ++ List.replicate j none)[i]? = some (some (m, d)) → ∃ v, (L2.start N vs)[i]? = some (some v) ∧ ArgV K H T m d v := fun {i m d} e => by
    by_cases hi : i < (slOf ms ds).length
    · rw [List.getElem?_append_left hi] at e
      obtain ⟨v, h1, h2⟩ := get h e
      refine ⟨v, ?_, h2⟩
      unfold L2.start
      rw [List.getElem?_append_left (by simp; omega), List.getElem?_map, h1]
      rfl
    · rw [List.getElem?_append_right (by omega), List.getElem?_replicate] at e
      split at e <;> cases e
  have hno : ∀ {d : PyData} {v : V}, Rp K H T d v → Rp K H (un no T) d v := fun h => Rp.mv (.less fun a z => z.elim False.elim id) _ _ h
  have hnoA : ∀ {d : List PyData} {v : List V}, RpA K H T d v → RpA K H (un no T) d v := fun h => RpA.mv (.less fun a z => z.elim False.elim id) _ _ h
  have hnoK : ∀ {d : List (PyData × PyData)} {v : List (Key × V)}, RpK K H T d v → RpK K H (un no T) d v := fun h => RpK.mv (.less fun a z => z.elim False.elim id) _ _ h
  refine ⟨⟨?_, fun a z => z.elim, hT, fun a z => z.elim, fun i m d e => ?_, fun i i' d d' v _ e _ _ => ?_⟩, l1⟩
  · unfold L2.start
    simp
    omega
  · obtain ⟨v, h1, h2⟩ := at2 e
    refine ⟨v, h1, ?_⟩
    cases m with
    | a => exact hno h2
    | b =>
      rcases h2 with h2 | ⟨ds, a, xs, e1, e2, e3, e4⟩ | ⟨ds, a, xs, e1, e2, e3, e4⟩
      · exact .inl (hno h2)
      · exact .inr (.inl ⟨ds, a, xs, e1, e2, ⟨e3, fun z => z⟩, hnoA e4⟩)
      · exact .inr (.inr ⟨ds, a, xs, e1, e2, ⟨e3, fun z => z⟩, hnoK e4⟩)
    | o => exact h2.elim
  · obtain ⟨_, _, h2⟩ := at2 e
    exact h2.elim
def tAg (K : PySem.W.Frag) (sl : Γ → Sl) (ms : List Mo) (en : A → List PyData) (f : Γ → Option A) : TA := fun σ H Q =>
  ∃ (g : Γ) (S0 S : Ad) (t : A), EnvS K S0 S H (sl g) σ ∧ f g = some t ∧ ∀ vs H', Same H H' → ArgsR K H' (un S S0) ms (en t) vs → Q vs H'
def AV (X : Cx) (sl : Γ → Sl) (ms : List Mo) (es : List Expr) (en : A → List PyData) (f : Γ → Option A) : Prop := PA X es (tAg X.K sl ms en f)
theorem ArgsR.same {K : PySem.W.Frag} {H H' : Hp} {T : Ad} (s : Same H H') : ∀ {ms : List Mo} {ds : List PyData} {vs : List V}, ArgsR K H T ms ds vs → ArgsR K H' T ms ds vs
  | [], [], [], h => h
  | m :: ms, d :: ds, v :: vs, h => ⟨h.1.same s, ArgsR.same s h.2⟩
theorem av_nil : AV X sl [] [] (fun _ : Unit => []) (fun _ => some ()) := PA.imp pa_nil fun σ H Q ⟨g, S0, S, t, E, hf, q⟩ => q [] H (Same.refl H) trivial
section
variable [Enc τ] {f : Γ → Option τ} {g : Γ → Option A} {ms : List Mo} {en : A → List PyData}
theorem av_a (h : PV X sl .a e f) (hr : AV X sl ms es en g) (hs : starEach (e :: es) X.env = (false, eval e X.env) :: starEach es X.env := by rfl) :
    AV X sl (.a :: ms) (e :: es) (fun t : τ × A => enc t.1 :: en t.2) (fun s => (f s).bind fun x => (g s).bind fun r => some (x, r)) := PA.imp (pa_cons h hr hs) fun σ H Q ⟨γ, S0, S, t, E, hf, q⟩ => by
  obtain ⟨x, r, h1, h2, h3⟩ := bind2 hf
  cases h3
  exact ⟨γ, S0, S, x, E, h1, fun v H1 s1 r1 => ⟨γ, S0, S, r, E.same s1, h2, fun vs H2 s2 r2 => q _ H2 (s1.trans s2) ⟨ArgV.same (m := .a) s2 r1, r2⟩⟩⟩
theorem av_b (h : PV X sl .b e f) (hr : AV X sl ms es en g) (hs : starEach (e :: es) X.env = (false, eval e X.env) :: starEach es X.env := by rfl) :
    AV X sl (.b :: ms) (e :: es) (fun t : τ × A => enc t.1 :: en t.2) (fun s => (f s).bind fun x => (g s).bind fun r => some (x, r)) := PA.imp (pa_cons h hr hs) fun σ H Q ⟨γ, S0, S, t, E, hf, q⟩ => by
  obtain ⟨x, r, h1, h2, h3⟩ := bind2 hf
  cases h3
  exact ⟨γ, S0, S, x, E, h1, fun v H1 s1 r1 => ⟨γ, S0, S, r, E.same s1, h2, fun vs H2 s2 r2 => q _ H2 (s1.trans s2) ⟨ArgV.same (m := .b) s2 r1, r2⟩⟩⟩
end
section
variable [Enc ρ] {k n : Nat} {f : Addr} {fd : FuncData} {ps N : List Str} {x : Str} {p : Pos} {F : A → Option ρ} {sl0 : A → Sl} {g : Γ → Option A} {ms : List Mo} {en : A → List PyData}
theorem ret_a {K : PySem.W.Frag} {T : Ad} {H H' : Hp} {d : PyData} {v : V} (h : RetV .a K T no H H' d v) : Same H H' ∧ Rp K H' T d v := ⟨fun a o e => (h.1 a o e (fun z => z)).1, h.2⟩
theorem ret_f {K : PySem.W.Frag} {T : Ad} {H H' : Hp} {d : PyData} {v : V} (h : RetV .f K T no H H' d v) : Same H H' ∧ Fr K H H' T d v := by
  refine ⟨fun a o e => (h.1 a o e (fun z => z)).1, ?_⟩
  obtain ⟨p, rfl, h1, h2, h3⟩ := h.2
  refine ⟨p, rfl, ?_, h3⟩
  cases hq : H p with
  | none => rfl
  | some o => exact (h1 (by rw [hq]; simp)).elim
theorem pv_calla (G : FnOk X.prog X.w X.K X.mg X.base CX0 k f fd ps (spF X.K N n sl0 .a F)) (hr : Room k X.A) (hg : Gl X x) (hm : X.mg x = some (.ref f)) (hk : PySem.W.keepIn X.K (.ref f) = true) (hb : Binds X.K fd ps []) (ha : AV X sl ms (e :: es) en g)
    (h0 : ∀ t, ∃ j, sl0 t = slOf ms (en t) ++ List.replicate j none ∧ N.length = ms.length + j) (hn : ms.length = n := by rfl) (hdb : (x == ("__debug__" : Str)) = false := by decide)
    (he : starEach (e :: es) X.env = (false, eval e X.env) :: starEach es X.env := by rfl) (hpl : (backTo pos (starEach es X.env)).any (·.1) = false := by rfl) :
    PV X sl .a (.Call (.Name x p) (e :: es) [] pos) (fun s => (g s).bind fun t => F t) := PE.imp (pe_call (E := E0) G hr hg hm hk hb .nil pass0 ha hdb he hpl) fun σ H Q ⟨γ, S0, S, r, E, hf, q⟩ => by
  obtain ⟨t, h1, h2⟩ := bind1 hf
  refine ⟨γ, S0, S, t, E, h1, fun vs H1 s1 r1 => ?_⟩
  obtain ⟨j, e1, e2⟩ := h0 t
  obtain ⟨E2, hl⟩ := env_start r1 (E.same s1).dT e2
  rw [List.append_nil]
  refine ⟨hl.trans hn, t, _, r, by rw [e1]; exact E2, h2, fun v H' rv => ?_⟩
  obtain ⟨s2, r2⟩ := ret_a rv
  exact q v H' (s1.trans s2) r2
theorem pv_callf (G : FnOk X.prog X.w X.K X.mg X.base CX0 k f fd ps (spF X.K N n sl0 .f F)) (hr : Room k X.A) (hg : Gl X x) (hm : X.mg x = some (.ref f)) (hk : PySem.W.keepIn X.K (.ref f) = true) (hb : Binds X.K fd ps []) (ha : AV X sl ms (e :: es) en g)
    (h0 : ∀ t, ∃ j, sl0 t = slOf ms (en t) ++ List.replicate j none ∧ N.length = ms.length + j) (hn : ms.length = n := by rfl) (hdb : (x == ("__debug__" : Str)) = false := by decide)
    (he : starEach (e :: es) X.env = (false, eval e X.env) :: starEach es X.env := by rfl) (hpl : (backTo pos (starEach es X.env)).any (·.1) = false := by rfl) :
    PV X sl .f (.Call (.Name x p) (e :: es) [] pos) (fun s => (g s).bind fun t => F t) := PE.imp (pe_call (E := E0) G hr hg hm hk hb .nil pass0 ha hdb he hpl) fun σ H Q ⟨γ, S0, S, r, E, hf, q⟩ => by
  obtain ⟨t, h1, h2⟩ := bind1 hf
  refine ⟨γ, S0, S, t, E, h1, fun vs H1 s1 r1 => ?_⟩
  obtain ⟨j, e1, e2⟩ := h0 t
  obtain ⟨E2, hl⟩ := env_start r1 (E.same s1).dT e2
  rw [List.append_nil]
  refine ⟨hl.trans hn, t, _, r, by rw [e1]; exact E2, h2, fun v H' rv => ?_⟩
  obtain ⟨s2, r2⟩ := ret_f rv
  exact q v H' (s1.trans s2) (r2.back s1)
theorem pv_call0 {F : Unit → Option ρ} {sl0 : Unit → Sl} (G : FnOk X.prog X.w X.K X.mg X.base CX0 k f fd ps (spF X.K N 0 sl0 .a F)) (hr : Room k X.A) (hg : Gl X x) (hm : X.mg x = some (.ref f)) (hk : PySem.W.keepIn X.K (.ref f) = true) (hb : Binds X.K fd ps [])
    (h0 : ∃ j, sl0 () = List.replicate j none ∧ N.length = j) (hdb : (x == ("__debug__" : Str)) = false := by decide) :
    PV X sl .a (.Call (.Name x p) [] [] pos) (fun s => F ()) := PE.imp (pe_call0 (E := E0) G hr hg hm hk hb .nil pass0 hdb) fun σ H Q ⟨γ, S0, S, r, E, hf, q⟩ => by
  obtain ⟨j, e1, e2⟩ := h0
  obtain ⟨E2, hl⟩ := env_start (K := X.K) (H := H) (ms := []) (ds := []) (vs := []) (T := un S S0) (j := j) (N := N) trivial E.dT (by rw [e2]; simp)
  refine ⟨rfl, (), _, r, by rw [e1]; exact E2, hf, fun v H' rv => ?_⟩
  obtain ⟨s2, r2⟩ := ret_a rv
  exact q v H' s2 r2
end
/-- more turns than any loop takes -/
def FUEL : Nat := 18446744073709551616
theorem hu64 {k : Nat} {A : Around} (hr : Room k A) : A.units + 64 < cLine := hr.units
theorem hu65 {k : Nat} {A : Around} (hr : Room k A) : A.units + 65 < cLine := by have := hr.un; omega
/-- another type for the same data -/
theorem PV.co [Enc α] [Enc β] {f : Γ → Option α} {k : Kd} (h : α → β) (p : ∀ t, enc (h t) = enc t) (he : PV X sl k e f) : PV X sl k e (fun s => (f s).bind fun t => some (h t)) := PE.imp he fun σ H Q ⟨g, S0, S, t, E, hf, q⟩ => by
  obtain ⟨u, h1, h2⟩ := bind1 hf
  cases h2
  exact ⟨g, S0, S, u, E, h1, fun v H' s r => q v H' s (by rw [p]; exact r)⟩
theorem co_some [Enc α] [Enc β] {h : α → β} (p : ∀ t, enc (h t) = enc t) (t : α) : enc (some (h t)) = enc t := p t
theorem co_map [Enc α] [Enc β] {h : α → β} (p : ∀ t, enc (h t) = enc t) (t : List α) : enc (t.map h) = enc t := by
  show PyData.list _ = PyData.list _
  rw [List.map_map]
  congr 1
  exact List.map_congr_left fun x _ => p x
theorem piv_varb {ι : Type} [Enc ι] {tg : Expr} {i : Nat} {x : Str} (p : Γ → List ι) (h : ∀ g, (sl g)[i]? = some (some (.b, enc (p g)))) (hN : X.N[i]? = some x := by rfl)
    (hv : Vis X.env.scope x := by first | exact Or.inl rfl | exact Or.inr (Or.inl rfl) | exact Or.inr (Or.inr rfl)) (hd : (x == ("__debug__" : Str)) = false := by decide) (hcd : (x == ("__classdict__" : Str)) = false := by decide) :
    IV X sl .a tg (.Name x pos) (fun g => some (p g)) := PI.imp (pi_list (pe_var (i := i) hN hv hd hcd)) fun σ H R ⟨g, S0, S, xs, E, hf, q⟩ => by
  cases hf
  obtain ⟨v, h1, h2⟩ := E.at_ i _ _ (h g)
  refine ⟨v, h1, ?_⟩
  rcases h2 with h2 | ⟨ds, a, vs, e1, rfl, h3, h4⟩ | ⟨_, _, _, e1, _⟩
  · obtain ⟨a, vs, rfl, h3, h4⟩ := h2
    exact ⟨a, rfl, ⟨vs, h3.sq⟩, q _ H (Same.refl H) (ok_list (fun S2 H2 m _ => (h3.mv m.un).sq) h4)⟩
  · cases e1
    exact ⟨a, rfl, ⟨vs, .inl h3.1⟩, q _ H (Same.refl H) (ok_list (fun S2 H2 m _ => .inl (rd_mv m h3).1) h4)⟩
  · cases e1
end PL

/-! PL9: more known functions. -/
namespace PL
open PySem PySem.Spec L2
open Enc (enc)
variable {Γ Γ' Γ'' ρ τ α β γ' A B : Type} {X : Cx} {sl : Γ → Sl} {sl' : Γ' → Sl} {e a b c : Expr} {es : List Expr} {k k1 : Kd} {pos : Pos} {kr : Kd}
theorem pv_gcd' {fa fb : Γ → Option Int} {p : Pos} (hg : Gl X "gcd") (hm : X.mg "gcd" = some (.builtin "math.gcd")) (ha : PV X sl .b a fa) (hb : PV X sl .b b fb) (he : starEach [a, b] X.env = (false, eval a X.env) :: starEach [b] X.env := by rfl) (he2 : starEach [b] X.env = (false, eval b X.env) :: starEach [] X.env := by rfl) (hpl : (backTo pos (starEach [b] X.env)).any (·.1) = false := by rfl) :
    PV X sl .a (.Call (.Name "gcd" p) [a, b] [] pos) (fun s => (fa s).bind fun x => (fb s).bind fun y => some ((Nat.gcd x.natAbs y.natAbs : Nat) : Int)) :=
  pv_c2 (fun h1 h2 => pe_callBfun cr_gcd hg hm (pa_cons h1 (pa_cons h2 pa_nil he2) he) (he := he) (hpl := hpl)) (fun T H x y u w t Q hT r1 r2 e q => by
    cases e
    exact ⟨u, w, by rw [rb_i r1, rb_i r2], q _ H (Same.refl H) rfl⟩) ha hb
/-- a, b, c = x, y, z: three local names -/
theorem sv_par3 [Enc ρ] [Enc α] [Enc β] [Enc γ'] {i j l : Nat} {x y z : Str} {px py pz pt : Pos} {kt k2 : Nat} {pt2 : Pos} {fa : Γ → Option α} {fb : Γ → Option β} {fc : Γ → Option γ'} (set : Γ → α → β → γ' → Γ') (h : ∀ g t u v, sl' (set g t u v) = (((sl g).set i (some (.a, enc t))).set j (some (.a, enc u))).set l (some (.a, enc v)))
    (hN : X.N.Nodup) (ha : PV X sl .a a fa) (hb : PV X sl .a b fb) (hc' : PV X sl .a c fc) (hij : i ≠ j := by decide) (hil : i ≠ l := by decide) (hjl : j ≠ l := by decide) (hi : X.N[i]? = some x := by rfl) (hj : X.N[j]? = some y := by rfl) (hl : X.N[l]? = some z := by rfl)
    (hx : X.env.scope.names.lookup x = some .local := by rfl) (hy : X.env.scope.names.lookup y = some .local := by rfl) (hz : X.env.scope.names.lookup z = some .local := by rfl) (hc : X.calm = true := by rfl)
    (h1 : starEach [a, b, c] X.env = (false, eval a X.env) :: starEach [b, c] X.env := by rfl) (h2 : starEach [b, c] X.env = (false, eval b X.env) :: starEach [c] X.env := by rfl) (h3 : starEach [c] X.env = (false, eval c X.env) :: starEach [] X.env := by rfl)
    (hw : swappedStores [.Tuple [.Name x px, .Name y py, .Name z pz] kt pt] (.Tuple [a, b, c] k2 pt2) X.env = pure (some [x, y, z]) := by rfl)
    (hs : swapsWithSole [.Tuple [.Name x px, .Name y py, .Name z pz] kt pt] (.Tuple [a, b, c] k2 pt2) pos.line X.env = pure false := by rfl) :
    SV (ρ := ρ) X sl sl' kr (.Assign [.Tuple [.Name x px, .Name y py, .Name z pz] kt pt] (.Tuple [a, b, c] k2 pt2) pos) (fun g => (fa g).bind fun t => (fb g).bind fun u => (fc g).bind fun v => some (.nx (set g t u v))) :=
  PS.imp (ps_par3 hc hN hi hj hl hij hil hjl hx hy hz (pa_cons ha (pa_cons hb (pa_cons hc' pa_nil h3) h2) h1) hw hs) fun D σ H ⟨γ, S0, S, o, E, hf, p⟩ => by
    obtain ⟨t, u, e1, e2, e3⟩ := bind2 hf
    obtain ⟨v, e4, e5⟩ := bind1 e3
    cases e5
    refine ⟨γ, S0, S, t, E, e1, fun v1 H1 s1 r1 => ⟨γ, S0, S, u, E.same s1, e2, fun v2 H2 s2 r2 => ⟨γ, S0, S, v, (E.same s1).same s2, e4, fun v3 H3 s3 r3 => ⟨v1, v2, v3, rfl, ?_⟩⟩⟩⟩
    have s23 := s2.trans s3
    refine p _ _ S ?_ (.same (s1.trans s23))
    rw [h]
    exact ((((E.same s1).same s23).seta (Rp.mv (.same s23) _ _ r1)).seta (Rp.mv (.same s3) _ _ r2)).seta r3
/-! ### truth -/
theorem pb_truI {f : Γ → Option Int} (h : PV X sl .b e f) (he : ∀ whole, isTrue e X.env whole = (do let v ← whole; standAt e.pos; holding [v] (truthy v)) := by intro _; rfl) : PB X sl e (fun s => (f s).bind fun x => some (x != 0)) :=
  PT.imp (pt_truth h he) fun σ H Q ⟨γ, S0, S, t, E, hf, q⟩ => by
    obtain ⟨x, e1, e2⟩ := bind1 hf
    cases e2
    exact ⟨γ, S0, S, x, E, e1, fun v H' s r => ⟨_, by rw [rb_i r]; exact rfl, q H' s⟩⟩
theorem pb_truL [Enc τ] {f : Γ → Option (List τ)} (h : PV X sl .b e f) (he : ∀ whole, isTrue e X.env whole = (do let v ← whole; standAt e.pos; holding [v] (truthy v)) := by intro _; rfl) : PB X sl e (fun s => (f s).bind fun x => some (!x.isEmpty)) :=
  PT.imp (pt_truth h he) fun σ H Q ⟨γ, S0, S, t, E, hf, q⟩ => by
    obtain ⟨x, e1, e2⟩ := bind1 hf
    cases e2
    refine ⟨γ, S0, S, x, E, e1, fun v H' s r => ?_⟩
    obtain ⟨p, xs, rfl, h1, h2⟩ := rb_l r
    refine ⟨_, .inl ⟨xs, h1, ?_⟩, q H' s⟩
    have hl := map_len h2
    cases x <;> cases xs <;> simp at hl ⊢
/-! ### texts -/
def tJoin (x : Tx) (ys : List Tx) : Option Tx := if (ys.map fun t => t.cs.length).sum + ys.length * x.cs.length ≤ 16777216 then some ⟨x.cs.intercalate (ys.map fun t => t.cs)⟩ else none

/-! ### comprehensions of two clauses -/
def noO (l : Sl) : Bool := l.all fun x => match x with
  | some (.o, _) => false
  | _ => true
theorem noO_spec {l : Sl} (h : noO l = true) (i : Nat) (d : PyData) : l[i]? ≠ some (some (.o, d)) := fun e => by
  have := List.all_eq_true.mp h _ (List.mem_of_getElem? e)
  cases this
section
variable {Γb Γc ι κ : Type} {slb : Γb → Sl} {slc : Γc → Sl} [Enc ι] [Enc κ] [Enc τ] {elt tg iter tg1 iter1 : Expr} {ifs ifs1 : List Expr} {scope : Scope} {own : List (Str × Nat)} {vs1 : List Nat} {fi : Γ → Option (List ι)} {set : Γ → ι → Γb} {js js1 : List Nat} {ft : Γb → Option Bool} {fi1 : Γb → Option (List κ)} {set1 : Γb → κ → Γc} {ft1 : Γc → Option Bool} {fe : Γc → Option τ}
theorem pv_lc2 (hN : X.N.Nodup)
    (hi : IV X sl .b tg iter fi) (ok : BlkOk X.N X.env.scope scope own) (hj : ∀ i ∈ js, i ∈ own.map (·.2)) (hj1 : ∀ i ∈ js1, i ∈ vs1) (hv : ∀ i ∈ vs1, i ∈ own.map (·.2)) (hno : ∀ g : Γb, noO (slb g) = true)
    (hg : ∀ (s : Shared) (H : Hp) (C : Addr) (cl : List (Str × Addr)) (fp : List Addr), GV (X.blk s H scope (compEnvC scope cl C X.env) fp) (fun g => wipeB (sl g) (own.map (·.2))) slb tg set js)
    (ht : ∀ (s : Shared) (H : Hp) (C : Addr) (cl : List (Str × Addr)) (fp : List Addr), PBs (X.blk s H scope (compEnvC scope cl C X.env) fp) slb ifs ft)
    (hi1 : ∀ (s : Shared) (H : Hp) (C : Addr) (cl : List (Str × Addr)) (fp : List Addr), IV (X.blk s H scope (compEnvC scope cl C X.env) fp) slb .a tg1 iter1 fi1)
    (hg1 : ∀ (s : Shared) (H : Hp) (C : Addr) (cl : List (Str × Addr)) (fp : List Addr), GV (X.blk s H scope (compEnvC scope cl C X.env) fp) (fun g => wipeB (slb g) vs1) slc tg1 set1 js1)
    (ht1 : ∀ (s : Shared) (H : Hp) (C : Addr) (cl : List (Str × Addr)) (fp : List Addr), PBs (X.blk s H scope (compEnvC scope cl C X.env) fp) slc ifs1 ft1)
    (he : ∀ (s : Shared) (H : Hp) (C : Addr) (cl : List (Str × Addr)) (fp : List Addr), PV (X.blk s H scope (compEnvC scope cl C X.env) fp) slc .a elt fe) (hc : X.calm = true := by rfl) (hs : ∀ x, foldedSetIterable iter X.env x = pure x := by intro _; rfl) (hs1 : ∀ env x, foldedSetIterable iter1 env x = pure x := by intro _ _; rfl) :
    PV X sl .f (.ListComp elt [⟨tg, iter, ifs, 0⟩, ⟨tg1, iter1, ifs1, 0⟩] scope pos) (fun g => ((fi g).bind fun xs => compO2 ft fi1 ft1 fe (set g) set1 xs).bind fun r => lNew r) :=
  PE.imp (pe_lc2 (g := tG X.K (fun g => wipeB (sl g) (own.map fun q : Str × Nat => q.2)) slb set js) (tt := tB X.K slb ft) (wi1 := tI X.K slb .a fi1) (g1 := tG X.K (fun g => wipeB (slb g) vs1) slc set1 js1) (tt1 := tB X.K slc ft1) (te := tD X.K slc .a fe) hc hN hi ok hv hg ht hi1 hg1 ht1 he hs hs1) fun σ H Q h => lc2_read hj hj1 (fun g => noO_spec (hno g)) h
variable [Enc ρ] {i : Nat} {y : Str} {py spos : Pos}
theorem sv_ownLc2 (st : Γ → List τ → Γ') (h : ∀ g t, sl' (st g t) = (sl g).set i (some (.o, enc t))) (hN : X.N.Nodup)
    (hi : IV X sl .b tg iter fi) (ok : BlkOk X.N X.env.scope scope own) (hj : ∀ i ∈ js, i ∈ own.map (·.2)) (hj1 : ∀ i ∈ js1, i ∈ vs1) (hv : ∀ i ∈ vs1, i ∈ own.map (·.2)) (hno : ∀ g : Γb, noO (slb g) = true)
    (hg : ∀ (s : Shared) (H : Hp) (C : Addr) (cl : List (Str × Addr)) (fp : List Addr), GV (X.blk s H scope (compEnvC scope cl C X.env) fp) (fun g => wipeB (sl g) (own.map (·.2))) slb tg set js)
    (ht : ∀ (s : Shared) (H : Hp) (C : Addr) (cl : List (Str × Addr)) (fp : List Addr), PBs (X.blk s H scope (compEnvC scope cl C X.env) fp) slb ifs ft)
    (hi1 : ∀ (s : Shared) (H : Hp) (C : Addr) (cl : List (Str × Addr)) (fp : List Addr), IV (X.blk s H scope (compEnvC scope cl C X.env) fp) slb .a tg1 iter1 fi1)
    (hg1 : ∀ (s : Shared) (H : Hp) (C : Addr) (cl : List (Str × Addr)) (fp : List Addr), GV (X.blk s H scope (compEnvC scope cl C X.env) fp) (fun g => wipeB (slb g) vs1) slc tg1 set1 js1)
    (ht1 : ∀ (s : Shared) (H : Hp) (C : Addr) (cl : List (Str × Addr)) (fp : List Addr), PBs (X.blk s H scope (compEnvC scope cl C X.env) fp) slc ifs1 ft1)
    (he : ∀ (s : Shared) (H : Hp) (C : Addr) (cl : List (Str × Addr)) (fp : List Addr), PV (X.blk s H scope (compEnvC scope cl C X.env) fp) slc .a elt fe)
    (hy : X.N[i]? = some y := by rfl) (hyl : X.env.scope.names.lookup y = some .local := by rfl)
    (hsw : swapsWith (.ListComp elt [⟨tg, iter, ifs, 0⟩, ⟨tg1, iter1, ifs1, 0⟩] scope pos) (some (.Name y py)) spos.line X.env = pure true := by exact sw_true rfl rfl rfl (by decide +kernel)) (hc : X.calm = true := by rfl) (hs : ∀ x, foldedSetIterable iter X.env x = pure x := by intro _; rfl) (hs1 : ∀ env x, foldedSetIterable iter1 env x = pure x := by intro _ _; rfl) :
    SV (ρ := ρ) X sl sl' kr (.Assign [.Name y py] (.ListComp elt [⟨tg, iter, ifs, 0⟩, ⟨tg1, iter1, ifs1, 0⟩] scope pos) spos) (fun g => (((fi g).bind fun xs => compO2 ft fi1 ft1 fe (set g) set1 xs).bind fun r => lNew r).bind fun t => some (.nx (st g t))) :=
  PS.imp (ps_setLc2 (g := tG X.K (fun g => wipeB (sl g) (own.map fun q : Str × Nat => q.2)) slb set js) (tt := tB X.K slb ft) (wi1 := tI X.K slb .a fi1) (g1 := tG X.K (fun g => wipeB (slb g) vs1) slc set1 js1) (tt1 := tB X.K slc ft1) (te := tD X.K slc .a fe) hc hN hy hyl hsw hi ok hv hg ht hi1 hg1 ht1 he hs hs1) fun D σ H ⟨γ, S0, S, o, E, hf, p⟩ => by
    obtain ⟨t, e1, e2⟩ := bind1 hf
    cases e2
    refine lc2_read hj hj1 (fun g => noO_spec (hno g)) ⟨γ, S0, S, t, E, e1, fun v H' s r => ?_⟩
    obtain ⟨S', m, E'⟩ := E.seto (i := i) s r
    refine p _ _ S' ?_ m
    rw [h]
    exact E'
theorem sv_setLc2 (st : Γ → List τ → Γ') (h : ∀ g t, sl' (st g t) = (sl g).set i (some (.a, enc t))) (hN : X.N.Nodup)
    (hi : IV X sl .b tg iter fi) (ok : BlkOk X.N X.env.scope scope own) (hj : ∀ i ∈ js, i ∈ own.map (·.2)) (hj1 : ∀ i ∈ js1, i ∈ vs1) (hv : ∀ i ∈ vs1, i ∈ own.map (·.2)) (hno : ∀ g : Γb, noO (slb g) = true)
    (hg : ∀ (s : Shared) (H : Hp) (C : Addr) (cl : List (Str × Addr)) (fp : List Addr), GV (X.blk s H scope (compEnvC scope cl C X.env) fp) (fun g => wipeB (sl g) (own.map (·.2))) slb tg set js)
    (ht : ∀ (s : Shared) (H : Hp) (C : Addr) (cl : List (Str × Addr)) (fp : List Addr), PBs (X.blk s H scope (compEnvC scope cl C X.env) fp) slb ifs ft)
    (hi1 : ∀ (s : Shared) (H : Hp) (C : Addr) (cl : List (Str × Addr)) (fp : List Addr), IV (X.blk s H scope (compEnvC scope cl C X.env) fp) slb .a tg1 iter1 fi1)
    (hg1 : ∀ (s : Shared) (H : Hp) (C : Addr) (cl : List (Str × Addr)) (fp : List Addr), GV (X.blk s H scope (compEnvC scope cl C X.env) fp) (fun g => wipeB (slb g) vs1) slc tg1 set1 js1)
    (ht1 : ∀ (s : Shared) (H : Hp) (C : Addr) (cl : List (Str × Addr)) (fp : List Addr), PBs (X.blk s H scope (compEnvC scope cl C X.env) fp) slc ifs1 ft1)
    (he : ∀ (s : Shared) (H : Hp) (C : Addr) (cl : List (Str × Addr)) (fp : List Addr), PV (X.blk s H scope (compEnvC scope cl C X.env) fp) slc .a elt fe)
    (hy : X.N[i]? = some y := by rfl) (hyl : X.env.scope.names.lookup y = some .local := by rfl)
    (hsw : swapsWith (.ListComp elt [⟨tg, iter, ifs, 0⟩, ⟨tg1, iter1, ifs1, 0⟩] scope pos) (some (.Name y py)) spos.line X.env = pure true := by exact sw_true rfl rfl rfl (by decide +kernel)) (hc : X.calm = true := by rfl) (hs : ∀ x, foldedSetIterable iter X.env x = pure x := by intro _; rfl) (hs1 : ∀ env x, foldedSetIterable iter1 env x = pure x := by intro _ _; rfl) :
    SV (ρ := ρ) X sl sl' kr (.Assign [.Name y py] (.ListComp elt [⟨tg, iter, ifs, 0⟩, ⟨tg1, iter1, ifs1, 0⟩] scope pos) spos) (fun g => (((fi g).bind fun xs => compO2 ft fi1 ft1 fe (set g) set1 xs).bind fun r => lNew r).bind fun t => some (.nx (st g t))) :=
  PS.imp (ps_setLc2 (g := tG X.K (fun g => wipeB (sl g) (own.map fun q : Str × Nat => q.2)) slb set js) (tt := tB X.K slb ft) (wi1 := tI X.K slb .a fi1) (g1 := tG X.K (fun g => wipeB (slb g) vs1) slc set1 js1) (tt1 := tB X.K slc ft1) (te := tD X.K slc .a fe) hc hN hy hyl hsw hi ok hv hg ht hi1 hg1 ht1 he hs hs1) fun D σ H ⟨γ, S0, S, o, E, hf, p⟩ => by
    obtain ⟨t, e1, e2⟩ := bind1 hf
    cases e2
    refine lc2_read hj hj1 (fun g => noO_spec (hno g)) ⟨γ, S0, S, t, E, e1, fun v H' s r => ?_⟩
    refine p _ _ S ?_ (.same s)
    rw [h]
    exact (E.same s).seta (Fr.rp r E.dT)
end

/-- the law's promise at a script -/
theorem sp_law {K : PySem.W.Frag} {H : Hp} {a : Addr} {ns : List Int} {N : List Str} {sl0 : List Int × Unit → Sl} {F : List Int × Unit → Option Bool} {E : XK} {j : Nat} (md : Mo) (hmd : md ≠ .o) (hS : SqL K H a (ns.map V.int)) (hF : F (ns, ()) = some true)
    (h0 : sl0 (ns, ()) = slOf [md] [enc ns] ++ List.replicate j none) (hN : N.length = 1 + j) : spF K N 1 sl0 .a F [.ref a] H (fun v _ => v = .bl true) E := by
  have r : Rp K H no (enc ns) (.ref a) := ⟨a, ns.map V.int, rfl, hS.imp (fun h => ⟨h, fun z => z⟩) id, rpa_ints ns⟩
  have ra : ArgsR K H no [md] [enc ns] [.ref a] := ⟨by
    cases md with
    | a => exact r
    | b => exact .inl r
    | o => exact absurd rfl hmd, trivial⟩
  obtain ⟨En, _⟩ := env_start (N := N) (j := j) ra (fun a z => z.elim) hN
  refine ⟨rfl, (ns, ()), no, true, by rw [h0]; exact En, hF, fun v H' rv => rv.2⟩
end PL

/-! PL10: repr, and the law's promise at the caller alone (its guards are known there). -/
namespace PL
open PySem PySem.Spec L2 PyProof.Rows
open Enc (enc)

section
variable {X : Cx} {pins : List (Addr × Obj)} {σ : L2.St} {H : Hp} {s : Shared} {T : Ad}
mutual
theorem reads_rp (I : Inv X pins σ H s) : ∀ (d : PyData) (v : V) (u : Value), Rp X.K H T d v → RelV v u → d.hasDict = false → ∃ as, Reads s.heap u d as
  | .none, v, u, h, r, _ => by
    have h : v = .non := h
    subst h
    have r : u = Value.none := r
    subst r
    exact ⟨_, .none⟩
  | .bool b, v, u, h, r, _ => by
    have h : v = .bl b := h
    subst h
    have r : u = Value.bool b := r
    subst r
    exact ⟨_, .bool b⟩
  | .int i, v, u, h, r, _ => by
    have h : v = .int i := h
    subst h
    obtain ⟨t, rfl⟩ := r
    exact ⟨_, .int i t⟩
  | .str x, v, u, h, r, _ => by
    have h : v = .str x := h
    subst h
    obtain ⟨t, rfl⟩ := r
    exact ⟨_, .str x t⟩
  | .list ds, v, u, h, r, nd => by
    obtain ⟨a, xs, e, h1, h2⟩ := h
    subst e
    have r : u = Value.ref a := r
    subst r
    obtain ⟨its, rv, ⟨o, n, q1, q2, _, q3⟩, _⟩ := I.list h1.sq
    obtain ⟨as, ra⟩ := reads_rpA I ds xs its h2 rv (by simpa [PyData.hasDict] using nd)
    exact ⟨_, .list q1 q2 q3 (by simpa using ra)⟩
  | .tuple ds, v, u, h, r, nd => by
    obtain ⟨a, xs, e, h1, h2⟩ := h
    subst e
    have r : u = Value.ref a := r
    subst r
    obtain ⟨its, rv, ⟨o, q1, q2, n, q3⟩, _⟩ := I.tuple h1.sq
    obtain ⟨as, ra⟩ := reads_rpA I ds xs its h2 rv (by simpa [PyData.hasDict] using nd)
    exact ⟨_, .tuple q1 q2 q3 (by simpa using ra)⟩
  | .dict kvs, v, u, h, r, nd => by simp [PyData.hasDict] at nd
theorem reads_rpA (I : Inv X pins σ H s) : ∀ (ds : List PyData) (xs : List V) (us : List Value), RpA X.K H T ds xs → Vals xs us → PyData.hasDictAll ds = false → ∃ as, ReadsAll s.heap us ds as
  | [], xs, us, h, r, _ => by
    have h : xs = [] := h
    subst h
    cases r
    exact ⟨_, .nil⟩
  | d :: ds, xs, us, h, r, nd => by
    obtain ⟨v, vs, e, h1, h2⟩ := h
    subst e
    rw [PyData.hasDictAll, Bool.or_eq_false_iff] at nd
    cases r with
    | cons r1 r2 =>
      obtain ⟨as, q1⟩ := reads_rp I d v _ h1 r1 nd.1
      obtain ⟨bs, q2⟩ := reads_rpA I ds vs _ h2 r2 nd.2
      exact ⟨_, .cons q1 q2⟩
end
theorem reads_rb (I : Inv X pins σ H s) {d : PyData} {v : V} {u : Value} (h : Rb X.K H T d v) (r : RelV v u) (nd : d.hasDict = false) : ∃ as, Reads s.heap u d as := by
  rcases h with h | ⟨ds, a, xs, rfl, rfl, h1, h2⟩ | ⟨kvs, a, es, rfl, _⟩
  · exact reads_rp I d v u h r nd
  · have r : u = Value.ref a := r
    subst r
    obtain ⟨its, rv, ⟨o, n, q1, q2, _, q3⟩, _⟩ := I.list (.inl h1)
    obtain ⟨as, ra⟩ := reads_rpA I ds xs its h2 rv (by simpa [PyData.hasDict] using nd)
    exact ⟨_, .list q1 q2 q3 (by simpa using ra)⟩
  · simp [PyData.hasDict] at nd
end
section
variable {X : Cx}
/-- repr of anything plain -/
theorem call_repr_any (hgd : X.A.guards = some []) (hu : X.A.units + 64 < cLine) :
    CallR X (.builtin "repr") (fun xs H Q => ∃ d v T, xs = [v] ∧ Rb X.K H T d v ∧ d.showable = true ∧ d.hasDict = false ∧ d.shown.length ≤ sizeLine ∧ d.depth ≤ 32 ∧ Q (.str d.shown) H) := by
  intro pins s σ H xs us Q I r h
  obtain ⟨d, v, T, rfl, hr, hs, nd, hz, hd, q⟩ := h
  obtain ⟨u, rfl, rv⟩ := vals1 r
  obtain ⟨as, R⟩ := reads_rb I hr rv nd
  cases R with
  | none => exact PySem.P.repr_of_none ⟨.str _, H, I.tok _, ⟨_, rfl⟩, q⟩
  | bool b => exact PySem.P.repr_of_bool ⟨.str _, H, I.tok _, ⟨_, rfl⟩, q⟩
  | int i t => exact PySem.P.repr_of_int (by simpa [PyData.showable] using hs) ⟨.str _, H, I.tok _, ⟨_, rfl⟩, q⟩
  | str x t => exact PySem.P.repr_of_str ⟨.str _, H, I.tok _, ⟨_, rfl⟩, q⟩ hz
  | list h1 h2 h3 h4 => exact repr_of_reads' (Reads.list h1 h2 h3 h4) hs (fun z => by rw [nd] at z; cases z) hgd (by omega) (fun _ _ e => e) (fun h' u tk k => ⟨.str _, H, I.kept k, ⟨_, rfl⟩, q⟩) hz
  | tuple h1 h2 h3 h4 => exact repr_of_reads' (Reads.tuple h1 h2 h3 h4) hs (fun z => by rw [nd] at z; cases z) hgd (by omega) (fun _ _ e => e) (fun h' u tk k => ⟨.str _, H, I.kept k, ⟨_, rfl⟩, q⟩) hz
  | dict _ _ _ _ _ => simp [PyData.hasDict] at nd
end
def rShow [Enc τ] (x : τ) : Option Tx := if (enc x).showable = true ∧ (enc x).hasDict = false ∧ (enc x).shown.length ≤ sizeLine ∧ (enc x).depth ≤ 32 then some ⟨(enc x).shown.cps.toList⟩ else none
section
variable {Γ τ : Type} {X : Cx} {sl : Γ → Sl} {a : Expr} {p pos : Pos}
theorem pv_repr [Enc τ] {fa : Γ → Option τ} (hgd : X.A.guards = some []) (hu : X.A.units + 64 < cLine) (hg : Gl X "repr") (hm : X.mg "repr" = none) (ha : PV X sl .b a fa) (he : starEach [a] X.env = (false, eval a X.env) :: starEach [] X.env := by rfl) :
    PV X sl .a (.Call (.Name "repr" p) [a] [] pos) (fun s => (fa s).bind fun x => rShow x) :=
  pv_c1 (fun h => pe_callB (call_repr_any hgd hu) hg hm (by rfl) (pa_cons h pa_nil he) (he := he)) (fun T H x u t Q hT r e q => by
    obtain ⟨⟨h1, h2, h3, h4⟩, rfl⟩ := if_some e
    refine ⟨_, x, T, rfl, r, h1, h2, h3, h4, q _ H (Same.refl H) ?_⟩
    show V.str _ = V.str _
    simp) ha
end

/-! ### the promise at the caller alone -/
def FnAt (P : Program) (w : World) (K : PySem.W.Frag) (mg : Str → Option Value) (base : Heap) (f : Addr) (fd : FuncData) (ps : List Str) (sp : Sp) : Prop :=
  ∀ (s : Shared) (H : Hp) (args : Args) (us : List Value) (vs : List V) (Q : VK) (E : XK), Env0 P w K mg base callerA [] s H → BindsTo s fd args (ps.zip us) → Vals vs us → sp vs H Q E →
    codeAny (model P w) callerA (.call (.ref f) args) (CR CX0 [] P w H s Q E) s
section
variable {P : Program} {w : World} {K : PySem.W.Frag} {mg : Str → Option Value} {base : Heap}
theorem fnAt_of {x qual : Str} {st : Stmt} {f : Addr} {fd : FuncData} {N ps : List Str} {k : Nat} {sp : Sp} (F : Fun K x qual st f fd) (S : FnScope N ps (defScope st)) (hr : Room (k + 1) callerA) (len : ∀ vs H Q E, sp vs H Q E → vs.length = ps.length)
    (body : ∀ (cdv : Value) (s : Shared) (H : Hp) (vs : List V) (Q : VK) (E : XK), Room k (callerA.deeper (envOfC qual (defScope st) s.heap.objs.size f cdv)) → sp vs H Q E →
      ∃ t, PSs (cxOf CX0 P w K mg base N qual (defScope st) f cdv callerA [] s H E).nox (defBody st) t ∧ t { nx := fun _ H' => Q .non H', rt := Q } (L2.start N vs) H) : FnAt P w K mg base f fd ps sp := by
  obtain ⟨oc, od, kV, doc, pm, an, cdv, ct, osl, rfl, lk, hcd⟩ := F.ex
  intro s H args us vs Q E e0 hb r hsp
  have n1 := len _ _ _ _ hsp
  have kin : K.In s.heap := e0.mod.kin.keeps fun b o z => (e0.bs b o z).1
  have nolim : s.heap.NoLimit := e0.mod.nolimit.keeps fun b o z => (e0.bs b o z).1
  refine codeAny_call_function hr.depth (kin _ _ lk) rfl S.co S.gen rfl
    (PySem.W.codeRec_of kin hcd) (hb _ _ _ _ ?_)
  refine wpAny_newFunctionEnv_cells S.kind ?_ fun env he s1 x => ?_
  · rintro ⟨n, v⟩ hy
    rcases S.par n (List.of_mem_zip hy).1 with z | z
    · exact .inl z
    · exact .inr ⟨z, PySem.W.cellsFrom_some _ _ _ (.inl z)⟩
  · subst he
    refine ⟨nolim.keeps x.toInCall.keep, codeAny_func ?_⟩
    obtain ⟨t, ht0, hq⟩ := body cdv s H vs Q E (hr.deeper _) hsp
    have ht := ht0.nox
    refine wpAny_mono (ht.run [] s1 (L2.start N vs) H _ (inv_start S hr.hd e0 n1 r x) hq) (fun fl s' hs => ?_) fun e s' hs => hs
    rcases fl with _ | _ | _ | u
    · obtain ⟨σ', H', J, q⟩ := hs
      exact ⟨.non, H', J.os, J.bare, J.base, J.hok, rfl, q⟩
    · obtain ⟨_, _, _, q⟩ := hs
      exact False.elim q
    · obtain ⟨_, _, _, q⟩ := hs
      exact False.elim q
    · obtain ⟨v, σ', H', J, rv, q⟩ := hs
      exact ⟨v, H', J.os, J.bare, J.base, J.hok, rv, q⟩
end
end PL

/-! PL11: the end of a law from the promise at the caller alone; the law's def. -/
namespace PL
open PySem PySem.Spec L2 PyProof.Rows
open Enc (enc)
variable {Γ Γ' ρ τ A : Type}

theorem at_call {P : Program} {w : World} {K : PySem.W.Frag} {mg mb : Str → Option Value} {fa a : Addr} {fd : FuncData} {x : Str} {sp : Sp} {s : Shared} {vs : List Value} {ns : List Int}
    (kin : K.In s.heap) (g1 : s.heap.Ns mainGlobals mg) (g2 : s.heap.Ns builtinsNs mb) (g3 : ∀ x : Str, x ≠ "__name__" → mb x = bootBuiltins x) (g4 : s.heap.NoLimit) (g5 : s.gens = #[])
    (ha : s.heap.get? a = some { cls := .type "list", data := .seq vs.toArray }) (hi : PyProof.Rows.IntsAre vs ns) (hl : ns.length ≤ sizeLine)
    (F : ∀ b : Heap, K.In b → b.Ns mainGlobals mg → FnAt P w K mg b fa fd [x] sp) (hb : ∀ (s : Shared) (u : Value), BindsTo s fd ⟨[u], []⟩ [(x, u)])
    (hsp : ∀ H : Hp, SqL K H a (ns.map V.int) → sp [.ref a] H (fun v _ => v = .bl true) fun _ _ _ => False) :
    codeAny (model P w) callerA (.call (.ref fa) ⟨[.ref a], []⟩) (fun r s' => r = .ok (.ret (.bool true)) ∧ OldK s.heap s'.heap ∧ s'.os = s.os ∧ AllBare s'.gens) s := by
  have rv := vals_ints hi
  -- the script is tracked, frozen, unless the module itself holds it
  obtain ⟨H, h1, h2, h3, h4⟩ : ∃ H : Hp, SqL K H a (ns.map V.int) ∧ HOk P w H s.heap ∧ (∀ b, H b ≠ none → b = a ∧ K.lookup a = none) ∧ ∀ b, H b = none ∨ ∃ o u, H b = some (.frz o u) := by
    cases e : K.lookup a with
    | some o =>
      refine ⟨fun _ => none, .inr ?_, (fun b u z => by have z : (none : Option HO) = some u := z; cases z), (fun b z => absurd rfl z), (fun _ => .inl rfl)⟩
      have q := kin a o e
      rw [ha] at q
      cases q
      refine ⟨_, vs.toArray, _, e, rfl, rfl, rfl, ?_, ?_⟩
      · rw [List.size_toArray, hi.length]; exact hl
      · simpa using rv
    | none =>
      refine ⟨fun b => if b = a then some (.frz { cls := .type "list", data := .seq vs.toArray } (.lst (ns.map V.int))) else none, .inl (.inr ⟨{ cls := .type "list", data := .seq vs.toArray }, if_pos rfl⟩), fun b u z => ?_, fun b z => ?_, fun b => ?_⟩
      · by_cases hba : b = a
        · subst hba
          have z2 := (if_pos rfl).symm.trans z
          cases z2
          refine ⟨ha, ?_, vs, _, rv, ha⟩
          rw [List.length_map]; exact hl
        · have z2 := (if_neg hba).symm.trans z
          cases z2
      · by_cases hba : b = a
        · exact ⟨hba, rfl⟩
        · exact absurd (if_neg hba) z
      · by_cases hba : b = a
        · exact .inr ⟨_, _, if_pos hba⟩
        · exact .inl (if_neg hba)
  have low : ∀ {b : Addr} {o : Obj}, s.heap.get? b = some o → H b = none → (hidT s.heap H).get? b = some o := fun z n => hidT_get z n
  have nsl : ∀ {b : Addr} {m : Str → Option Value}, s.heap.Ns b m → (hidT s.heap H).Ns b m := by
    rintro b m ⟨o, es, ep, z, d, r⟩
    refine ⟨o, es, ep, low z ?_, d, r⟩
    cases q : H b with
    | none => rfl
    | some u =>
      obtain ⟨rfl, _⟩ := h3 b (by rw [q]; simp)
      rw [ha] at z
      cases z
      cases d
  have kb : K.In (hidT s.heap H) := fun b o z => low (kin b o z) (by
    cases q : H b with
    | none => rfl
    | some u =>
      obtain ⟨rfl, n⟩ := h3 b (by rw [q]; simp)
      rw [n] at z
      cases z)
  have md : Mod K mg (hidT s.heap H) := by
    obtain ⟨mc, y1, y2⟩ := g4
    exact ⟨kb, nsl g1, ⟨mb, nsl g2, g3⟩, ⟨mc, nsl y1, y2⟩⟩
  have e0 : Env0 P w K mg (hidT s.heap H) callerA [] s H :=
    ⟨rfl, md, fun b o z => of_hidT z, Nat.le_of_eq (hidT_size _ _), trivial, (fun b z => by cases z), h2, .of_eq g5⟩
  have go := F _ kb (nsl g1) s H ⟨[.ref a], []⟩ [.ref a] [.ref a] _ _ e0 (hb s (.ref a)) (.cons rfl .nil) (hsp H h1)
  refine codeAny_mono go fun r s' h => ?_
  rcases r with e | fl
  · exact False.elim h
  · rcases fl with _ | _ | _ | u
    · exact False.elim h
    · exact False.elim h
    · exact False.elim h
    · obtain ⟨v, H', os, bare, un, ok', r', q⟩ := h
      have q2 : v = .bl true := q
      subst q2
      have r2 : u = Value.bool true := r'
      subst r2
      refine ⟨rfl, OldK.of_keep fun b o z => ?_, os, bare⟩
      rcases h4 b with q | ⟨ob, u2, q⟩
      · exact un.keep b o z q (by intro y; cases y) (by intro y; cases y)
      · have q2 := un.frzs b ob _ q
        obtain ⟨i1, _⟩ := h2 b _ q
        obtain ⟨i2, _⟩ := ok' b _ q2
        rw [z] at i1
        cases i1
        exact i2

theorem walk_at {l : PySem.W.OpenLaw} {n : Nat} {q : Program} {loose : List Str} {XP : (Str → Option Value) → Heap → Prop} {YP : World → Heap → Prop} {d : DefRec} {K : Params → PySem.W.Frag} {sp : World → Sp} {x : Str}
    (h1 : l.most = some n) (h2 : n ≤ sizeLine) (h3 : d.params.defaults = []) (h4 : ∀ (w : World) (h : Heap), YP w h → (K w.params).In h)
    (F : ∀ (w : World) (mg : Str → Option Value) (fa : Addr) (h : Heap), (K w.params).In h → h.Ns mainGlobals mg → mg d.name = some (.ref fa) →
      ∃ fd : FuncData, (∀ (s : Shared) (u : Value), BindsTo s fd ⟨[u], []⟩ [(x, u)]) ∧ ∀ b : Heap, (K w.params).In b → b.Ns mainGlobals mg → FnAt l.prog w (K w.params) mg b fa fd [x] (sp w))
    (hsp : ∀ (w : World) (H : Hp) (a : Addr) (ns : List Int), ns.length ≤ n → SqL (K w.params) H a (ns.map V.int) → sp w [.ref a] H (fun v _ => v = .bl true) fun _ _ _ => False) :
    PySem.W.WalkO q loose XP YP l.row.toRowW d [] (fun f vs => PySem.call f vs) := by
  refine Att.attach_call h1 h3 ?_
  intro w s₀ s₁ mg mb fa o pm cd doc a vs ns G Y ho hd hcd hmg hobj hints hlen hg
  have kin := h4 w _ Y
  obtain ⟨fd, hb, hF⟩ := F w mg fa _ kin G.T.g hmg
  exact at_call kin G.T.g G.T.b G.T.builtins G.T.nolimit hg hobj hints (Nat.le_trans hlen h2) hF hb fun H hS => hsp w H a ns hlen hS
section
variable {P : Program} {w : World} {K : PySem.W.Frag} {mg : Str → Option Value} {base : Heap}
theorem fnAt_v [Enc ρ] {x qual : Str} {st : Stmt} {f : Addr} {fd : FuncData} {N ps : List Str} {k n : Nat} {sl0 : A → Sl} {slE : Γ → Sl} {fb : A → Option (Out Γ ρ)} {F : A → Option ρ} {kr : Kd} (dn : Option ρ) (Fn : Fun K x qual st f fd) (S : FnScope N ps (defScope st)) (hr : Room (k + 1) callerA) (hn : ps.length = n := by rfl)
    (hdn : ∀ r, dn = some r → enc r = .none) (hk : kr = .a ∨ kr = .f ∧ dn = none)
    (hF : ∀ g, F g = outF dn (fb g))
    (hb : ∀ (cdv : Value) (s : Shared) (H : Hp) (E : XK), Room k (callerA.deeper (envOfC qual (defScope st) s.heap.objs.size f cdv)) →
      BV (cxOf CX0 P w K mg base N qual (defScope st) f cdv callerA [] s H E).nox sl0 slE kr (defBody st) fb) :
    FnAt P w K mg base f fd ps (spF K N n sl0 kr F) := by
  refine fnAt_of Fn S hr (fun vs H Q E h => h.1.trans hn.symm) fun cdv s H vs Q E hr h => ?_
  obtain ⟨hl, g, S0, r, En, hFr, q⟩ := h
  refine ⟨_, hb cdv s H E hr, ?_⟩
  rw [hF] at hFr
  obtain ⟨o, h1, h2⟩ := bind1 hFr
  refine ⟨g, S0, no, o, En, h1, ?_⟩
  cases o with
  | rt r' =>
    cases h2
    exact q
  | nx g' =>
    have h2 : dn = some r := h2
    rcases hk with rfl | ⟨_, e⟩
    · exact fun σ' H' S' _ m => q .non H' ⟨m.no, by rw [hdn r h2]; rfl⟩
    · rw [e] at h2; cases h2
end
example {P : Program} {w : World} {K : PySem.W.Frag} {mg : Str → Option Value} {base : Heap} {N : List Str} {qual : Str} {sc : Scope} {f : Addr} {cdv : Value} {s : Shared} {H : Hp} {E : XK} : (cxOf CX0 P w K mg base N qual sc f cdv callerA [] s H E).nox.A.guards = some [] := rfl
end PL

/-! PL12: dicts that a def owns. -/
namespace PL
open PySem PySem.Spec L2
open Enc (enc)
variable {Γ Γ' ρ τ κ : Type} {X : Cx} {sl : Γ → Sl} {sl' : Γ' → Sl} {e : Expr} {pos : Pos} {kr : Kd}
/-- keys -/
class KeyT (κ : Type) [Enc κ] [DecidableEq κ] where
  key : κ → Key
  kd : ∀ k : κ, keyD (enc k) = some (key k)
  inj : ∀ k l : κ, key k = key l → k = l
  rp : ∀ (K : PySem.W.Frag) (H : Hp) (T : Ad) (k : κ) (v : V), Rb K H T (enc k) v → v = kV (key k)
open KeyT (key)
instance : KeyT Int := ⟨.inl, fun _ => rfl, fun _ _ e => Sum.inl.inj e, fun _ _ _ _ _ h => rb_i h⟩
instance : KeyT Tx := ⟨fun x => .inr ⟨x.cs.toArray⟩, fun _ => rfl, fun k l e => by
  have := congrArg Str.cps (Sum.inr.inj e)
  have h : k.cs = l.cs := by simpa using this
  cases k; cases l; cases h; rfl, fun _ _ _ _ _ h => rb_t h⟩
structure Dct (κ τ : Type) where
  es : List (κ × τ)
def eE [Enc κ] [Enc τ] (q : κ × τ) : PyData × PyData := (enc q.1, enc q.2)
instance [Enc κ] [Enc τ] : Enc (Dct κ τ) := ⟨fun d => .dict (d.es.map eE)⟩
def kGet [DecidableEq κ] (d : Dct κ τ) (k : κ) : Option τ := (d.es.find? fun q => decide (q.1 = k)).map (·.2)
def kIn [DecidableEq κ] (k : κ) (d : Dct κ τ) : Option Bool := some (kGet d k).isSome
def kNin [DecidableEq κ] (k : κ) (d : Dct κ τ) : Option Bool := some (!(kGet d k).isSome)
def kPut [DecidableEq κ] (d : Dct κ τ) (k : κ) (t : τ) : Option (Dct κ τ) :=
  if d.es.length < sizeLine then some ⟨if (d.es.any fun q => decide (q.1 = k)) = true then d.es.map (fun q => if q.1 = k then (q.1, t) else q) else d.es ++ [(k, t)]⟩ else none
section
variable {K : PySem.W.Frag} {H : Hp} {T : Ad} {v : V}
theorem rb_d [Enc κ] [Enc τ] {d : Dct κ τ} (h : Rb K H T (enc d) v) : ∃ a es, v = .ref a ∧ Rd H a (.dK es) ∧ RpK K H T (d.es.map eE) es := by
  rcases h with ⟨a, es, e, h1, h2⟩ | ⟨_, _, _, e, _⟩ | ⟨kvs, a, es, e, rfl, h1, h2⟩
  · exact ⟨a, es, e, h1.1, h2⟩
  · cases e
  · cases e
    exact ⟨a, es, rfl, h1, h2⟩
variable [Enc κ] [Enc τ] [DecidableEq κ] [KeyT κ]
theorem rpk_get (k : κ) : ∀ {es : List (κ × τ)} {ks : List (Key × V)}, RpK K H T (es.map eE) ks →
    (∃ t v, kGet ⟨es⟩ k = some t ∧ valV ks (key k) = some v ∧ Rp K H T (enc t) v) ∨ (kGet ⟨es⟩ k = none ∧ valV ks (key k) = none)
  | [], ks, h => by
    have h : ks = [] := h
    subst h
    exact .inr ⟨rfl, rfl⟩
  | (k', t) :: es, ks, h => by
    obtain ⟨i, v, vs, rfl, hk, h1, h2⟩ := h
    have hk : i = key k' := by
      have := KeyT.kd k'
      exact Option.some.inj (hk.symm.trans this)
    subst hk
    by_cases c : k' = k
    · subst c
      exact .inl ⟨t, v, by simp [kGet, List.find?_cons], valV_pos rfl, h1⟩
    · have c2 : key k' ≠ key k := fun z => c (KeyT.inj _ _ z)
      rcases rpk_get k h2 with ⟨t2, v2, g1, g2, g3⟩ | ⟨g1, g2⟩
      · exact .inl ⟨t2, v2, by simpa [kGet, List.find?_cons, c] using g1, by simpa [valV, List.find?_cons, c2] using g2, g3⟩
      · exact .inr ⟨by simpa [kGet, List.find?_cons, c] using g1, by simpa [valV, List.find?_cons, c2] using g2⟩
theorem rpk_any (k : κ) : ∀ {es : List (κ × τ)} {ks : List (Key × V)}, RpK K H T (es.map eE) ks → (ks.any fun kv => decide (kv.1 = key k)) = es.any fun q => decide (q.1 = k)
  | [], ks, h => by
    have h : ks = [] := h
    subst h
    rfl
  | (k', t) :: es, ks, h => by
    obtain ⟨i, v, vs, rfl, hk, h1, h2⟩ := h
    have hk : i = key k' := Option.some.inj (hk.symm.trans (KeyT.kd k'))
    subst hk
    rw [List.any_cons, List.any_cons, rpk_any k h2]
    congr 1
    exact decide_eq_decide.mpr ⟨fun z => KeyT.inj _ _ z, fun z => by have z : k' = k := z; rw [z]⟩
theorem rpk_map (k : κ) {t : τ} {v : V} (hv : Rp K H T (enc t) v) : ∀ {es : List (κ × τ)} {ks : List (Key × V)}, RpK K H T (es.map eE) ks →
    RpK K H T ((es.map fun q => if q.1 = k then (q.1, t) else q).map eE) (ks.map fun kv => if kv.1 = key k then (kv.1, v) else kv)
  | [], ks, h => by
    have h : ks = [] := h
    subst h
    rfl
  | (k', t') :: es, ks, h => by
    obtain ⟨i, v', vs, rfl, hk, h1, h2⟩ := h
    have hk2 : i = key k' := Option.some.inj (hk.symm.trans (KeyT.kd k'))
    subst hk2
    by_cases c : k' = k
    · have c2 : key k' = key k := by rw [c]
      refine ⟨key k', v, _, ?_, ?_, ?_, rpk_map k hv h2⟩
      · simp [c2]
      · simp only [if_pos c]; exact KeyT.kd k'
      · simp only [if_pos c]; exact hv
    · have c2 : key k' ≠ key k := fun z => c (KeyT.inj _ _ z)
      refine ⟨key k', v', _, ?_, ?_, ?_, rpk_map k hv h2⟩
      · simp [c2]
      · simp only [if_neg c]; exact KeyT.kd k'
      · simp only [if_neg c]; exact h1
theorem rpk_app (k : κ) {t : τ} {v : V} (hv : Rp K H T (enc t) v) : ∀ {es : List (κ × τ)} {ks : List (Key × V)}, RpK K H T (es.map eE) ks → RpK K H T ((es ++ [(k, t)]).map eE) (ks ++ [(key k, v)])
  | [], ks, h => by
    have h : ks = [] := h
    subst h
    exact ⟨_, _, _, rfl, KeyT.kd k, hv, rfl⟩
  | (k', t') :: es, ks, h => by
    obtain ⟨i, v', vs, rfl, hk, h1, h2⟩ := h
    exact ⟨i, v', _, rfl, hk, h1, rpk_app k hv h2⟩
theorem rpk_put (k : κ) {t : τ} {v : V} (hv : Rp K H T (enc t) v) {es : List (κ × τ)} {ks : List (Key × V)} (h : RpK K H T (es.map eE) ks) :
    RpK K H T ((if (es.any fun q => decide (q.1 = k)) = true then es.map (fun q => if q.1 = k then (q.1, t) else q) else es ++ [(k, t)]).map eE) (putK ks (key k) v) := by
  unfold putK
  rw [rpk_any k h]
  by_cases c : (es.any fun q => decide (q.1 = k)) = true
  · rw [if_pos c, if_pos c]; exact rpk_map k hv h
  · rw [if_neg c, if_neg c]; exact rpk_app k hv h
theorem rpk_len : ∀ {es : List (κ × τ)} {ks : List (Key × V)}, RpK K H T (es.map eE) ks → ks.length = es.length
  | [], ks, h => by
    have h : ks = [] := h
    subst h
    rfl
  | _ :: es, ks, h => by
    obtain ⟨i, v', vs, rfl, hk, h1, h2⟩ := h
    simp [rpk_len h2]
end
variable [Enc κ] [Enc τ] [DecidableEq κ] [KeyT κ] {fd : Γ → Option (Dct κ τ)} {fk : Γ → Option κ} {o i : Expr}
theorem pv_dict : PV X sl .f (.Dict [] [] pos) (fun _ => some (⟨[]⟩ : Dct κ τ)) := PE.imp pe_dnewK fun σ H Q ⟨γ, S0, S, t, E, hf, q⟩ p hp => by
  cases hf
  exact q _ _ (same_new hp) ⟨p, rfl, hp, .inr ⟨[], [], rfl, upd_same, rfl⟩⟩
theorem pv_dget (hu : X.A.units + 64 < cLine) (ho : PV X sl .b o fd) (hi : PV X sl .b i fk) (hs : NoSl i := by intro _ _; rfl) : PV X sl .a (.Subscript o i pos) (fun s => (fd s).bind fun x => (fk s).bind fun y => kGet x y) :=
  PE.imp (pe_dget (by omega) ho hi hs) fun σ H Q ⟨γ, S0, S, t, E, hf, q⟩ => by
    obtain ⟨u, w, h1, h2, h3⟩ := bind2 hf
    refine ⟨γ, S0, S, u, E, h1, fun x H1 s1 r1 => ⟨γ, S0, S, w, E.same s1, h2, fun y H2 s2 r2 => ?_⟩⟩
    obtain ⟨a, es, rfl, g1, g2⟩ := rb_d (Rb.mv (.same s2) r1 s2)
    obtain rfl := KeyT.rp _ _ _ _ _ r2
    rcases rpk_get w g2 with ⟨t', v, e1, e2, e3⟩ | ⟨e1, _⟩
    · have e4 : t' = t := Option.some.inj (e1.symm.trans h3)
      subst e4
      exact ⟨a, v, rfl, .inl ⟨es, _, g1, rfl, e2.symm⟩, q _ H2 (s1.trans s2) e3⟩
    · have e1 : kGet u w = none := e1
      rw [e1] at h3; cases h3

theorem pv_inD (hu : X.A.units + 64 < cLine) (hi : PV X sl .b i fk) (ho : PV X sl .b o fd) (hm : behindInMarks .In o = false := by first | exact nomark _ | with_unfolding_all rfl) : PV X sl .a (.Compare i [.In] [o] pos) (fun s => (fk s).bind fun y => (fd s).bind fun x => kIn y x) :=
  PE.imp (pe_cmp (pc_din (by omega) hi ho) hm) fun σ H Q ⟨γ, S0, S, t, E, hf, q⟩ => by
    obtain ⟨u, w, h1, h2, h3⟩ := bind2 hf
    cases h3
    refine ⟨γ, S0, S, u, E, h1, fun x H1 s1 r1 => ⟨γ, S0, S, w, E.same s1, h2, fun y H2 s2 r2 => ?_⟩⟩
    obtain ⟨a, es, rfl, g1, g2⟩ := rb_d r2
    obtain rfl := KeyT.rp _ _ _ _ _ r1
    refine ⟨a, _, rfl, .inl ⟨es, _, g1, rfl, rfl⟩, q _ H2 (s1.trans s2) ?_⟩
    rcases rpk_get u g2 with ⟨t', v, e1, e2, e3⟩ | ⟨e1, e2⟩
    · rw [e2]; show V.bl _ = V.bl _; rw [show kGet w u = some t' from e1]; rfl
    · rw [e2]; show V.bl _ = V.bl _; rw [show kGet w u = none from e1]; rfl
theorem pv_ninD (hu : X.A.units + 64 < cLine) (hi : PV X sl .b i fk) (ho : PV X sl .b o fd) (hm : behindInMarks .NotIn o = false := by first | exact nomark _ | with_unfolding_all rfl) : PV X sl .a (.Compare i [.NotIn] [o] pos) (fun s => (fk s).bind fun y => (fd s).bind fun x => kNin y x) :=
  PE.imp (pe_cmp (pc_dnotin (by omega) hi ho) hm) fun σ H Q ⟨γ, S0, S, t, E, hf, q⟩ => by
    obtain ⟨u, w, h1, h2, h3⟩ := bind2 hf
    cases h3
    refine ⟨γ, S0, S, u, E, h1, fun x H1 s1 r1 => ⟨γ, S0, S, w, E.same s1, h2, fun y H2 s2 r2 => ?_⟩⟩
    obtain ⟨a, es, rfl, g1, g2⟩ := rb_d r2
    obtain rfl := KeyT.rp _ _ _ _ _ r1
    refine ⟨a, _, rfl, .inl ⟨es, _, g1, rfl, rfl⟩, q _ H2 (s1.trans s2) ?_⟩
    rcases rpk_get u g2 with ⟨t', v, e1, e2, e3⟩ | ⟨e1, e2⟩
    · rw [e2]; show V.bl _ = V.bl _; rw [show kGet w u = some t' from e1]; rfl
    · rw [e2]; show V.bl _ = V.bl _; rw [show kGet w u = none from e1]; rfl
theorem pb_inD (hu : X.A.units + 64 < cLine) (hi : PV X sl .b i fk) (ho : PV X sl .b o fd) (hm : behindInMarks .In o = false := by first | exact nomark _ | with_unfolding_all rfl) : PB X sl (.Compare i [.In] [o] pos) (fun s => (fk s).bind fun y => (fd s).bind fun x => kIn y x) :=
  PT.imp (pt_cmp (pc_din (by omega) hi ho) hm) fun σ H Q ⟨γ, S0, S, t, E, hf, q⟩ => by
    obtain ⟨u, w, h1, h2, h3⟩ := bind2 hf
    cases h3
    refine ⟨γ, S0, S, u, E, h1, fun x H1 s1 r1 => ⟨γ, S0, S, w, E.same s1, h2, fun y H2 s2 r2 => ?_⟩⟩
    obtain ⟨a, es, rfl, g1, g2⟩ := rb_d r2
    obtain rfl := KeyT.rp _ _ _ _ _ r1
    refine ⟨a, _, rfl, .inl ⟨es, _, g1, rfl, rfl⟩, ⟨_, ?_, q H2 (s1.trans s2)⟩⟩
    rcases rpk_get u g2 with ⟨t', v, e1, e2, e3⟩ | ⟨e1, e2⟩
    · rw [e2]; show V.bl _ = V.bl _; rw [show kGet w u = some t' from e1]; rfl
    · rw [e2]; show V.bl _ = V.bl _; rw [show kGet w u = none from e1]; rfl
theorem pb_ninD (hu : X.A.units + 64 < cLine) (hi : PV X sl .b i fk) (ho : PV X sl .b o fd) (hm : behindInMarks .NotIn o = false := by first | exact nomark _ | with_unfolding_all rfl) : PB X sl (.Compare i [.NotIn] [o] pos) (fun s => (fk s).bind fun y => (fd s).bind fun x => kNin y x) :=
  PT.imp (pt_cmp (pc_dnotin (by omega) hi ho) hm) fun σ H Q ⟨γ, S0, S, t, E, hf, q⟩ => by
    obtain ⟨u, w, h1, h2, h3⟩ := bind2 hf
    cases h3
    refine ⟨γ, S0, S, u, E, h1, fun x H1 s1 r1 => ⟨γ, S0, S, w, E.same s1, h2, fun y H2 s2 r2 => ?_⟩⟩
    obtain ⟨a, es, rfl, g1, g2⟩ := rb_d r2
    obtain rfl := KeyT.rp _ _ _ _ _ r1
    refine ⟨a, _, rfl, .inl ⟨es, _, g1, rfl, rfl⟩, ⟨_, ?_, q H2 (s1.trans s2)⟩⟩
    rcases rpk_get u g2 with ⟨t', v, e1, e2, e3⟩ | ⟨e1, e2⟩
    · rw [e2]; show V.bl _ = V.bl _; rw [show kGet w u = some t' from e1]; rfl
    · rw [e2]; show V.bl _ = V.bl _; rw [show kGet w u = none from e1]; rfl
/-- d[k] = v, d an owned dict -/
theorem sv_dput [Enc ρ] {x : Str} {j : Nat} {value ix : Expr} {fv : Γ → Option τ} {p0 p1 : Pos} (q : Γ → Dct κ τ) (set : Γ → Dct κ τ → Γ') (hu : X.A.units + 64 < cLine) (hq : ∀ g, (sl g)[j]? = some (some (.o, enc (q g)))) (h : ∀ g t, sl' (set g t) = (sl g).set j (some (.o, enc t)))
    (hv : PV X sl .a value fv) (hi : PV X sl .b ix fk) (hN : X.N[j]? = some x := by rfl)
    (hvis : Vis X.env.scope x := by first | exact Or.inl rfl | exact Or.inr (Or.inl rfl) | exact Or.inr (Or.inr rfl)) (hd : (x == ("__debug__" : Str)) = false := by decide) (hcd : (x == ("__classdict__" : Str)) = false := by decide)
    (hs : swapsWith value (some (.Subscript (.Name x p0) ix p1)) pos.line X.env = pure false := by rfl) :
    SV (ρ := ρ) X sl sl' kr (.Assign [.Subscript (.Name x p0) ix p1] value pos) (fun g => (fv g).bind fun t => (fk g).bind fun k => (kPut (q g) k t).bind fun l => some (.nx (set g l))) :=
  PS.imp (ps_dput (by omega) (pe_var (i := j) hN hvis hd hcd) hi hv hs) fun D σ H ⟨γ, S0, S, o, E, hf, p⟩ => by
    obtain ⟨t, e1, e2⟩ := bind1 hf
    obtain ⟨k, e3, e4⟩ := bind1 e2
    obtain ⟨l, e5, e6⟩ := bind1 e4
    cases e6
    obtain ⟨hz, rfl⟩ := if_some e5
    refine ⟨γ, S0, S, t, E, e1, fun y H1 s1 r1 => ?_⟩
    have E1 := E.same s1
    obtain ⟨v, h1, a, rfl, h2, h3⟩ := E1.at_ j _ _ (hq γ)
    refine ⟨_, h1, γ, S0, S, k, E1, e3, fun z H2 s2 r2 => ?_⟩
    have E2 := E1.same s2
    obtain rfl := KeyT.rp _ _ _ _ _ r2
    rcases h3 with ⟨_, _, e1', _⟩ | ⟨kvs, es, e1', g1, g2⟩
    · cases e1'
    · cases e1'
      have g3 := s2 _ _ g1
      have g4 : RpK X.K H2 (un S S0) ((q γ).es.map eE) es := RpK.mv (.same s2) _ _ g2
      refine ⟨a, _, rfl, .inl ⟨es, _, g3, rfl, by rw [rpk_len g4]; exact hz, rfl⟩, ?_⟩
      obtain ⟨mv, E3⟩ := E2.chg (u := .dK (putK es (KeyT.key k) y)) (d' := enc (⟨if ((q γ).es.any fun q => decide (q.1 = k)) = true then (q γ).es.map (fun q => if q.1 = k then (q.1, t) else q) else (q γ).es ++ [(k, t)]⟩ : Dct κ τ)) (hq γ) h1 h2 fun mv => .inr ⟨_, _, rfl, upd_same, by
        have g5 := RpK.mv mv.un _ _ g4
        have r3 : Rp X.K _ _ (enc t) y := Rp.mv mv.un _ _ (Rp.mv (.same s2) _ _ r1)
        exact rpk_put k r3 g5⟩
      refine p _ _ S ?_ ((Mv.same (s1.trans s2)).trans mv)
      rw [h]
      exact E3
end PL

/-! PL13: texts. -/
namespace PL
open PySem PySem.Spec L2
open Enc (enc)
variable {Γ Γ' ρ τ : Type} {X : Cx} {sl : Γ → Sl} {sl' : Γ' → Sl} {e o i : Expr} {pos apos : Pos} {kr : Kd}
def jL (a : List Nat) : List (List Nat) → List Nat
  | [] => []
  | [p] => p
  | p :: q :: r => p ++ (a ++ jL a (q :: r))
theorem jL_eq (a : List Nat) : ∀ ys, TL.joinL a ys = jL a ys
  | [] => rfl
  | [p] => rfl
  | p :: q :: r => by
    have := jL_eq a (q :: r)
    show p ++ (a ++ TL.joinL a (q :: r)) = p ++ (a ++ jL a (q :: r))
    rw [this]
def tJn (x : Tx) (ys : List Tx) : Option Tx := if (ys.map fun t => t.cs.length).sum + ys.length * x.cs.length ≤ 16777216 then some ⟨jL x.cs (ys.map fun t => t.cs)⟩ else none
theorem rpa_txs {K : PySem.W.Frag} {H : Hp} {T : Ad} : ∀ {t : List Tx} {xs : List V}, RpA K H T (t.map enc) xs → xs = ((t.map fun q => q.cs).map SX.S).map V.str
  | [], xs, h => by have h : xs = [] := h; rw [h]; rfl
  | t :: ts, xs, h => by
    obtain ⟨v, vs, rfl, h1, h2⟩ := h
    have h1 : v = .str ⟨t.cs.toArray⟩ := h1
    rw [rpa_txs h2, h1]
    rfl
theorem pv_join {fo : Γ → Option Tx} {fe : Γ → Option (List Tx)} (ho : PV X sl .b o fo) (he : PV X sl .b e fe) (hs : starEach [e] X.env = [(false, eval e X.env)] := by rfl) (hbase : attributeBase o "join" X.env (eval o X.env) = eval o X.env := by rfl) (hline : (apos.endLine == pos.line) = true := by rfl) :
    PV X sl .a (.Call (.Attribute o "join" apos) [e] [] pos) (fun s => (fo s).bind fun x => (fe s).bind fun y => tJn x y) :=
  PE.imp (pe_join ho he hs hbase hline) fun σ H Q ⟨γ, S0, S, t, E, hf, q⟩ => by
    obtain ⟨u, w, h1, h2, h3⟩ := bind2 hf
    obtain ⟨hz, rfl⟩ := if_some h3
    refine ⟨γ, S0, S, u, E, h1, fun x H1 s1 r1 => ⟨⟨_, rb_t r1⟩, γ, S0, S, w, E.same s1, h2, fun y H2 s2 r2 => ?_⟩⟩
    obtain ⟨p, xs, rfl, g1, g2⟩ := rb_l r2
    refine ⟨_, p, (w.map fun q => q.cs).map SX.S, rb_t r1, rfl, .inl (by rw [← rpa_txs g2]; exact g1), ?_, q _ H2 (s1.trans s2) ?_⟩
    · simp only [List.map_map, List.length_map]
      exact hz
    · have := SX.join_S u.cs (w.map fun q => q.cs)
      rw [jL_eq] at this
      show V.str _ = V.str _
      exact congrArg V.str this

/-- the first place of a sign -/
def fIx (c : Nat) : List Nat → Nat → Option Nat
  | [], _ => none
  | d :: l, n => if d = c then some n else fIx c l (n + 1)
def tIndex (x y : Tx) : Option Int := match y.cs with
  | [c] => (fIx c x.cs 0).map fun n => (n : Int)
  | _ => none
theorem fIx_spec {c : Nat} : ∀ {l : List Nat} {n k : Nat}, fIx c l n = some k → ∃ i, k = n + i ∧ l[i]? = some c ∧ ∀ j, j < i → l[j]? ≠ some c
  | [], n, k, h => by cases h
  | d :: l, n, k, h => by
    unfold fIx at h
    by_cases e : d = c
    · rw [if_pos e] at h; cases h
      exact ⟨0, rfl, by rw [e]; rfl, fun j hj => by omega⟩
    · rw [if_neg e] at h
      obtain ⟨i, h1, h2, h3⟩ := fIx_spec h
      refine ⟨i + 1, by omega, by simpa using h2, fun j hj => ?_⟩
      cases j with
      | zero => intro z; exact e (by simpa using z)
      | succ j => have := h3 j (by omega); simpa using this
theorem occ_fst {l : List Nat} {c i : Nat} (h1 : l[i]? = some c) (h2 : ∀ j, j < i → l[j]? ≠ some c) : ∃ r, Builtin.Str.occurrences (SX.S l) ⟨#[c]⟩ 0 (SX.S l).length 1 = i :: r := by
  rw [StrLaws.occ_eq]
  have at_iff : ∀ j, StrLaws.At (SX.S l) ⟨#[c]⟩ (SX.S l).length j ↔ l[j]? = some c := fun j => by
    have := StrLaws.subAt_one (SX.S l) c j
    simpa [StrLaws.At] using this
  have il : i < l.length := by
    rcases Nat.lt_or_ge i l.length with h | h
    · exact h
    · rw [List.getElem?_eq_none h] at h1; cases h1
  rcases StrLaws.occ_first (SX.S l) ⟨#[c]⟩ (SX.S l).length 1 (Nat.le_refl 1) (List.range' 0 ((SX.S l).length + 1 - 0)) 0 (fun _ _ => Nat.zero_le _) with ⟨_, h⟩ | ⟨pre, a, post, e, h, ha, hp⟩
  · refine absurd ((at_iff i).mpr h1) (h i ?_)
    rw [List.mem_range'_1]
    refine ⟨Nat.zero_le _, ?_⟩
    show i < 0 + (l.toArray.size + 1 - 0)
    simp; omega
  · have e1 : a = i := by
      have ha2 := (at_iff a).mp ha
      have e2 : pre.length = a := by
        have := congrArg (fun q => q[pre.length]?) e
        simp only [List.getElem?_append_right (Nat.le_refl _), Nat.sub_self, List.getElem?_cons_zero] at this
        rw [List.getElem?_range'] at this
        · simpa using this
        · have := congrArg List.length e
          simp at this ⊢
          omega
      rcases Nat.lt_trichotomy a i with h3 | h3 | h3
      · exact absurd ha2 (h2 a h3)
      · exact h3
      · refine absurd ((at_iff i).mpr h1) (hp i ?_)
        have : pre[i]? = some i := by
          have := congrArg (fun q => q[i]?) e
          simp only [List.getElem?_append_left (show i < pre.length by omega)] at this
          rw [List.getElem?_range'] at this
          · simpa using this.symm
          · have := congrArg List.length e
            simp at this ⊢
            omega
        exact List.mem_of_getElem? this
    subst e1
    cases q : (forIn (List.range' 0 ((SX.S l).length + 1 - 0)) ((#[] : Array Nat), 0) (StrLaws.occBody (SX.S l) ⟨#[c]⟩ (SX.S l).length 1)).run.fst.toList with
    | nil =>
      have h' := h
      rw [← Array.getElem?_toList, q] at h'
      cases h'
    | cons b r =>
      refine ⟨r, ?_⟩
      have h' := h
      rw [← Array.getElem?_toList, q] at h'
      cases h'
      rfl
theorem pv_indexS {fo fe : Γ → Option Tx} (ho : PV X sl .b o fo) (he : PV X sl .b e fe) (hs : starEach [e] X.env = [(false, eval e X.env)] := by rfl) (hbase : attributeBase o "index" X.env (eval o X.env) = eval o X.env := by rfl) (hline : (apos.endLine == pos.line) = true := by rfl) :
    PV X sl .a (.Call (.Attribute o "index" apos) [e] [] pos) (fun s => (fo s).bind fun x => (fe s).bind fun y => tIndex x y) :=
  PE.imp (pe_m1 PySem.F.slot_str_index PySem.F.type_str_index mt_sindex ho he hs hbase hline) fun σ H Q ⟨γ, S0, S, t, E, hf, q⟩ => by
    obtain ⟨u, w, h1, h2, h3⟩ := bind2 hf
    refine ⟨γ, S0, S, u, E, h1, fun x H1 s1 r1 => ⟨⟨_, rb_t r1⟩, γ, S0, S, w, E.same s1, h2, fun y H2 s2 r2 => ?_⟩⟩
    obtain ⟨ucs⟩ := u
    obtain ⟨wcs⟩ := w
    unfold tIndex at h3
    rcases wcs with _ | ⟨c, _ | _⟩
    · cases h3
    · simp only at h3
      cases e5 : fIx c ucs 0 with
      | none => rw [e5] at h3; cases h3
      | some k =>
        rw [e5] at h3
        cases h3
        obtain ⟨i, e6, g1, g2⟩ := fIx_spec e5
        rw [Nat.zero_add] at e6
        subst e6
        obtain ⟨r, g3⟩ := occ_fst g1 g2
        exact ⟨_, _, k, r, rb_t r1, by rw [rb_t r2], g3, q _ H2 (s1.trans s2) rfl⟩
    · cases h3
/-- membership of one sign -/
def tIn (y x : Tx) : Option Bool := match y.cs with
  | [c] => some (decide (c ∈ x.cs))
  | _ => none
def c_inT : Cmp X .In Tx Tx (fun y x => tIn y x) := ⟨_, op_in_str, fun T H x y u w t Q hT r1 r2 e q => by
  obtain ⟨ucs⟩ := u
  obtain ⟨wcs⟩ := w
  unfold tIn at e
  rcases ucs with _ | ⟨c, _ | _⟩
  · cases e
  · cases e
    refine ⟨_, _, rb_t r1, rb_t r2, q _ H (Same.refl H) ?_⟩
    exact congrArg V.bl (StrLaws.found_one ⟨wcs.toArray⟩ c)
  · cases e⟩

def c_ninT : Cmp X .NotIn Tx Tx (fun y x => (tIn y x).map (!·)) := ⟨_, op_notin_str, fun T H x y u w t Q hT r1 r2 e q => by
  obtain ⟨ucs⟩ := u
  obtain ⟨wcs⟩ := w
  unfold tIn at e
  rcases ucs with _ | ⟨c, _ | _⟩
  · cases e
  · cases e
    refine ⟨_, _, rb_t r1, rb_t r2, q _ H (Same.refl H) ?_⟩
    exact congrArg (fun z => V.bl (!z)) (StrLaws.found_one ⟨wcs.toArray⟩ c)
  · cases e⟩
/-- one sign, many times -/
def tRep (x : Tx) (n : Int) : Option Tx := match x.cs with
  | [c] => if -(2 ^ 62) ≤ n ∧ n ≤ 16777216 then some ⟨List.replicate n.toNat c⟩ else none
  | _ => none
theorem op_repT1 : OpR X (binaryOp .Mult) (fun x y H Q => ∃ (c : Nat) (n : Int), x = .str ⟨#[c]⟩ ∧ y = .int n ∧ -(2 ^ 62) ≤ n ∧ n ≤ 16777216 ∧ Q (.str (SX.S (List.replicate n.toNat c))) H) := by
  intro pins s σ H x y v u Q I rx ry h
  obtain ⟨c, n, rfl, rfl, h1, h2, q⟩ := h
  obtain ⟨t, rfl⟩ := rx
  obtain ⟨t2, rfl⟩ := ry
  refine SB.mul ⟨?_, fun h3 h4 => ?_, fun h3 h4 => ?_⟩ fun t' k => ⟨.str _, H, I.tok _, ⟨t', ?_⟩, q⟩
  · rw [Bool.or_eq_false_iff]; exact ⟨decide_eq_false (by omega), decide_eq_false (by omega)⟩
  · show ¬ (((1 : Nat) : Int) > (2 ^ 63 - 1) / n)
    have : (1 : Int) ≤ (2 ^ 63 - 1) / n := (Int.le_ediv_iff_mul_le (by omega)).mpr (by omega)
    omega
  · show Builtin.Str.tooLong (1 * n.toNat) = false
    unfold Builtin.Str.tooLong
    exact decide_eq_false (by rw [show sizeLine = 16777216 by decide]; omega)
  · have := PyProof.Rows.mul_one_list c n
    congr 1
    rw [← this]
theorem pv_repS {a b : Expr} {fa : Γ → Option Tx} {fb : Γ → Option Int} (ha : PV X sl .b a fa) (hb : PV X sl .b b fb) : PV X sl .a (.BinOp a .Mult b pos) (fun s => (fa s).bind fun x => (fb s).bind fun y => tRep x y) :=
  pv_2 (pe_op op_repT1) (fun T H x y u w t Q hT r1 r2 e q => by
    obtain ⟨ucs⟩ := u
    unfold tRep at e
    rcases ucs with _ | ⟨c, _ | _⟩
    · cases e
    · simp only at e
      obtain ⟨⟨h1, h2⟩, rfl⟩ := if_some e
      exact ⟨c, w, by rw [rb_t r1], rb_i r2, h1, h2, q _ H (Same.refl H) rfl⟩
    · cases e) ha hb
end PL

/-! PL14: several names at once, one of them a new list or dict. -/
namespace PL
open PySem PySem.Spec L2
open Enc (enc)
variable {Γ Γ' ρ τ α β γ' : Type} {X : Cx} {sl : Γ → Sl} {sl' : Γ' → Sl} {a b c e o i : Expr} {pos apos : Pos} {kr : Kd}
theorem Fr.fwd {K : PySem.W.Frag} {H H1 H2 : Hp} {T : Ad} {d : PyData} {v : V} (h : Fr K H H1 T d v) (s : Same H1 H2) : Fr K H H2 T d v := by
  obtain ⟨p, rfl, hp, ⟨ds, xs, rfl, h1, h2⟩ | ⟨ds, xs, rfl, h1, h2⟩⟩ := h
  · exact ⟨p, rfl, hp, .inl ⟨ds, xs, rfl, s _ _ h1, h2.mv (.same s)⟩⟩
  · exact ⟨p, rfl, hp, .inr ⟨ds, xs, rfl, s _ _ h1, RpK.mv (.same s) _ _ h2⟩⟩
/-- the variables as they are, while a new object waits -/
theorem EnvS.wait {K : PySem.W.Frag} {S0 S : Ad} {H H' : Hp} {l : Sl} {σ : L2.St} {d : PyData} {v : V} (E : EnvS K S0 S H l σ) (s : Same H H') (r : Fr K H H' (un S S0) d v) : ∃ p, v = .ref p ∧ Mv S H (wi S p) H' ∧ EnvS K S0 (wi S p) H' l σ := by
  obtain ⟨p, e, m, q⟩ := E.seto' (i := l.length) s r
  rw [List.set_eq_of_length_le (Nat.le_refl _), List.set_eq_of_length_le (by rw [E.len]; exact Nat.le_refl _)] at q
  exact ⟨p, e, m, q⟩
theorem sv_par3_aoa [Enc ρ] [Enc α] [Enc β] [Enc γ'] {i j l : Nat} {x y z : Str} {px py pz pt : Pos} {kt k2 : Nat} {pt2 : Pos} {fa : Γ → Option α} {fb : Γ → Option β} {fc : Γ → Option γ'} (set : Γ → α → β → γ' → Γ') (h : ∀ g t u v, sl' (set g t u v) = (((sl g).set i (some (.a, enc t))).set j (some (.o, enc u))).set l (some (.a, enc v)))
    (hN : X.N.Nodup) (ha : PV X sl .a a fa) (hb : PV X sl .f b fb) (hc' : PV X sl .a c fc) (hij : i ≠ j := by decide) (hil : i ≠ l := by decide) (hjl : j ≠ l := by decide) (hi : X.N[i]? = some x := by rfl) (hj : X.N[j]? = some y := by rfl) (hl : X.N[l]? = some z := by rfl)
    (hx : X.env.scope.names.lookup x = some .local := by rfl) (hy : X.env.scope.names.lookup y = some .local := by rfl) (hz : X.env.scope.names.lookup z = some .local := by rfl) (hc : X.calm = true := by rfl)
    (h1 : starEach [a, b, c] X.env = (false, eval a X.env) :: starEach [b, c] X.env := by rfl) (h2 : starEach [b, c] X.env = (false, eval b X.env) :: starEach [c] X.env := by rfl) (h3 : starEach [c] X.env = (false, eval c X.env) :: starEach [] X.env := by rfl)
    (hw : swappedStores [.Tuple [.Name x px, .Name y py, .Name z pz] kt pt] (.Tuple [a, b, c] k2 pt2) X.env = pure (some [x, y, z]) := by rfl)
    (hs : swapsWithSole [.Tuple [.Name x px, .Name y py, .Name z pz] kt pt] (.Tuple [a, b, c] k2 pt2) pos.line X.env = pure false := by rfl) :
    SV (ρ := ρ) X sl sl' kr (.Assign [.Tuple [.Name x px, .Name y py, .Name z pz] kt pt] (.Tuple [a, b, c] k2 pt2) pos) (fun g => (fa g).bind fun t => (fb g).bind fun u => (fc g).bind fun v => some (.nx (set g t u v))) :=
  PS.imp (ps_par3 hc hN hi hj hl hij hil hjl hx hy hz (pa_cons ha (pa_cons hb (pa_cons hc' pa_nil h3) h2) h1) hw hs) fun D σ H ⟨γ, S0, S, o, E, hf, p⟩ => by
    obtain ⟨t, u, e1, e2, e3⟩ := bind2 hf
    obtain ⟨v, e4, e5⟩ := bind1 e3
    cases e5
    refine ⟨γ, S0, S, t, E, e1, fun v1 H1 s1 r1 => ⟨γ, S0, S, u, E.same s1, e2, fun v2 H2 s2 r2 => ?_⟩⟩
    have E1 := E.same s1
    obtain ⟨p2, q2, m2, E2⟩ := E1.wait s2 r2
    refine ⟨γ, S0, _, v, E2, e4, fun v3 H3 s3 r3 => ⟨v1, v2, v3, rfl, ?_⟩⟩
    have s23 := s2.trans s3
    obtain ⟨p3, q3, m3, E3⟩ := (E1.seta (i := i) r1).seto' (i := j) s23 (r2.fwd s3)
    have e : p2 = p3 := by
      have := q2.symm.trans q3
      injection this
    subst e
    refine p _ _ _ ?_ ((Mv.same s1).trans m3)
    rw [h]
    exact E3.seta r3
theorem sv_par3_oaa [Enc ρ] [Enc α] [Enc β] [Enc γ'] {i j l : Nat} {x y z : Str} {px py pz pt : Pos} {kt k2 : Nat} {pt2 : Pos} {fa : Γ → Option α} {fb : Γ → Option β} {fc : Γ → Option γ'} (set : Γ → α → β → γ' → Γ') (h : ∀ g t u v, sl' (set g t u v) = (((sl g).set i (some (.o, enc t))).set j (some (.a, enc u))).set l (some (.a, enc v)))
    (hN : X.N.Nodup) (ha : PV X sl .f a fa) (hb : PV X sl .a b fb) (hc' : PV X sl .a c fc) (hij : i ≠ j := by decide) (hil : i ≠ l := by decide) (hjl : j ≠ l := by decide) (hi : X.N[i]? = some x := by rfl) (hj : X.N[j]? = some y := by rfl) (hl : X.N[l]? = some z := by rfl)
    (hx : X.env.scope.names.lookup x = some .local := by rfl) (hy : X.env.scope.names.lookup y = some .local := by rfl) (hz : X.env.scope.names.lookup z = some .local := by rfl) (hc : X.calm = true := by rfl)
    (h1 : starEach [a, b, c] X.env = (false, eval a X.env) :: starEach [b, c] X.env := by rfl) (h2 : starEach [b, c] X.env = (false, eval b X.env) :: starEach [c] X.env := by rfl) (h3 : starEach [c] X.env = (false, eval c X.env) :: starEach [] X.env := by rfl)
    (hw : swappedStores [.Tuple [.Name x px, .Name y py, .Name z pz] kt pt] (.Tuple [a, b, c] k2 pt2) X.env = pure (some [x, y, z]) := by rfl)
    (hs : swapsWithSole [.Tuple [.Name x px, .Name y py, .Name z pz] kt pt] (.Tuple [a, b, c] k2 pt2) pos.line X.env = pure false := by rfl) :
    SV (ρ := ρ) X sl sl' kr (.Assign [.Tuple [.Name x px, .Name y py, .Name z pz] kt pt] (.Tuple [a, b, c] k2 pt2) pos) (fun g => (fa g).bind fun t => (fb g).bind fun u => (fc g).bind fun v => some (.nx (set g t u v))) :=
  PS.imp (ps_par3 hc hN hi hj hl hij hil hjl hx hy hz (pa_cons ha (pa_cons hb (pa_cons hc' pa_nil h3) h2) h1) hw hs) fun D σ H ⟨γ, S0, S, o, E, hf, p⟩ => by
    obtain ⟨t, u, e1, e2, e3⟩ := bind2 hf
    obtain ⟨v, e4, e5⟩ := bind1 e3
    cases e5
    refine ⟨γ, S0, S, t, E, e1, fun v1 H1 s1 r1 => ?_⟩
    obtain ⟨p2, q2, m2, E2⟩ := E.wait s1 r1
    refine ⟨γ, S0, _, u, E2, e2, fun v2 H2 s2 r2 => ⟨γ, S0, _, v, E2.same s2, e4, fun v3 H3 s3 r3 => ⟨v1, v2, v3, rfl, ?_⟩⟩⟩
    have s23 := s2.trans s3
    obtain ⟨p3, q3, m3, E3⟩ := E.seto' (i := i) (s1.trans s23) (r1.fwd s23)
    have e : p2 = p3 := by
      have := q2.symm.trans q3
      injection this
    subst e
    refine p _ _ _ ?_ m3
    rw [h]
    exact (E3.seta (Rp.mv (.same s3) _ _ r2)).seta r3
theorem sv_par_oa [Enc ρ] [Enc α] [Enc β] {i j : Nat} {x y : Str} {px py pt : Pos} {kt k2 : Nat} {pt2 : Pos} {fa : Γ → Option α} {fb : Γ → Option β} (set : Γ → α → β → Γ') (h : ∀ g t u, sl' (set g t u) = ((sl g).set i (some (.o, enc t))).set j (some (.a, enc u)))
    (hN : X.N.Nodup) (ha : PV X sl .f a fa) (hb : PV X sl .a b fb) (hij : i ≠ j := by decide) (hi : X.N[i]? = some x := by rfl) (hj : X.N[j]? = some y := by rfl) (hx : X.env.scope.names.lookup x = some .local := by rfl) (hy : X.env.scope.names.lookup y = some .local := by rfl) (hc : X.calm = true := by rfl)
    (h1 : starEach [a, b] X.env = (false, eval a X.env) :: starEach [b] X.env := by rfl) (h2 : starEach [b] X.env = (false, eval b X.env) :: starEach [] X.env := by rfl)
    (hw : swappedStores [.Tuple [.Name x px, .Name y py] kt pt] (.Tuple [a, b] k2 pt2) X.env = pure (some [x, y]) := by rfl)
    (hs : swapsWithSole [.Tuple [.Name x px, .Name y py] kt pt] (.Tuple [a, b] k2 pt2) pos.line X.env = pure false := by rfl) :
    SV (ρ := ρ) X sl sl' kr (.Assign [.Tuple [.Name x px, .Name y py] kt pt] (.Tuple [a, b] k2 pt2) pos) (fun g => (fa g).bind fun t => (fb g).bind fun u => some (.nx (set g t u))) :=
  PS.imp (ps_par hc hN hi hj hij hx hy (pa_cons ha (pa_cons hb pa_nil h2) h1) hw hs) fun D σ H ⟨γ, S0, S, o, E, hf, p⟩ => by
    obtain ⟨t, u, e1, e2, e3⟩ := bind2 hf
    cases e3
    refine ⟨γ, S0, S, t, E, e1, fun v H1 s1 r1 => ?_⟩
    obtain ⟨p2, q2, m2, E2⟩ := E.wait s1 r1
    refine ⟨γ, S0, _, u, E2, e2, fun w H2 s2 r2 => ⟨v, w, rfl, ?_⟩⟩
    obtain ⟨p3, q3, m3, E3⟩ := E.seto' (i := i) (s1.trans s2) (r1.fwd s2)
    have e : p2 = p3 := by
      have := q2.symm.trans q3
      injection this
    subst e
    refine p _ _ _ ?_ m3
    rw [h]
    exact E3.seta r2
end PL

/-! PL15: the place in a list of ints. -/
namespace PL
open PySem PySem.Spec L2
open Enc (enc)
variable {Γ : Type} {X : Cx} {sl : Γ → Sl} {e o : Expr} {apos cpos : Pos}
def fIxI (c : Int) : List Int → Nat → Option Nat
  | [], _ => none
  | d :: l, n => if d = c then some n else fIxI c l (n + 1)
def lIndex (x : List Int) (y : Int) : Option Int := (fIxI y x 0).map fun n => (n : Int)
theorem fIxI_spec {c : Int} : ∀ {l : List Int} {n k : Nat}, fIxI c l n = some k → ∃ i, k = n + i ∧ l[i]? = some c ∧ ∀ j, j < i → l[j]? ≠ some c
  | [], n, k, h => by cases h
  | d :: l, n, k, h => by
    unfold fIxI at h
    by_cases e : d = c
    · rw [if_pos e] at h; cases h
      exact ⟨0, rfl, by rw [e]; rfl, fun j hj => by omega⟩
    · rw [if_neg e] at h
      obtain ⟨i, h1, h2, h3⟩ := fIxI_spec h
      refine ⟨i + 1, by omega, by simpa using h2, fun j hj => ?_⟩
      cases j with
      | zero => intro z; exact e (by simpa using z)
      | succ j => have := h3 j (by omega); simpa using this
theorem pv_index {fo : Γ → Option (List Int)} {fe : Γ → Option Int} (ho : PV X sl .b o fo) (he : PV X sl .b e fe)
    (hbase : attributeBase o "index" X.env (eval o X.env) = eval o X.env := by rfl)
    (hfew : ((backTo cpos (starEach [e] X.env)).all (fun x => !x.1) && (backToKw cpos (keywordEach [] X.env)).all (fun x => x.1.isSome)
      && decide ([e].length + ([] : List Keyword).length + (if ([] : List Keyword).isEmpty then 0 else 1) < 30)) = true := by rfl)
    (hline : (apos.endLine == cpos.line) = true := by rfl) (hs1 : starEach [e] X.env = (false, eval e X.env) :: starEach [] X.env := by rfl) (hplain : (backTo cpos (starEach [] X.env)).any (·.1) = false := by rfl) :
    PV X sl .a (.Call (.Attribute o "index" apos) [e] [] cpos) (fun s => (fo s).bind fun x => (fe s).bind fun y => lIndex x y) :=
  PE.imp (pe_bm PySem.F.plainAttrs_list PySem.F.slot_list_index PySem.F.type_list_index mt_index ho (pa_cons he pa_nil hs1) hbase hfew hline hs1 hplain) fun σ H Q ⟨γ, S0, S, t, E, hf, q⟩ => by
    obtain ⟨u, w, h1, h2, h3⟩ := bind2 hf
    refine ⟨γ, S0, S, u, E, h1, fun x H1 s1 r1 => ?_⟩
    obtain ⟨a, xs, rfl, g1, g2⟩ := rb_l r1
    refine ⟨.inl ⟨rfl, xs, g1⟩, γ, S0, S, w, E.same s1, h2, fun y H2 s2 r2 => ?_⟩
    cases e5 : fIxI w u 0 with
    | none => unfold lIndex at h3; rw [e5] at h3; cases h3
    | some k =>
      unfold lIndex at h3
      rw [e5] at h3
      cases h3
      obtain ⟨i, e6, g3, g4⟩ := fIxI_spec e5
      rw [Nat.zero_add] at e6
      subst e6
      obtain rfl := rpa_int g2
      obtain rfl := rb_i r2
      refine ⟨a, _, .int w, k, .int w, rfl, rfl, s2.seq g1, rfl, ?_, by rw [List.getElem?_map, g3]; rfl, ?_, fun m z' hm hz => ?_, q _ H2 (s1.trans s2) rfl⟩
      · rw [List.all_eq_true]
        intro v hv
        obtain ⟨i, _, rfl⟩ := List.mem_map.mp hv
        rfl
      · simp [eqV]
      · rw [List.getElem?_map] at hz
        cases e7 : u[m]? with
        | none => rw [e7] at hz; cases hz
        | some i =>
          rw [e7] at hz
          cases hz
          have : i ≠ w := fun z => g4 m hm (by rw [e7, z])
          simp [eqV, this]
end PL

/-! PL16: x, y, z = (a, new, c), through a tuple. -/
namespace PL
open PySem PySem.Spec L2
open Enc (enc)
variable {Γ Γ' ρ τ α β γ' : Type} {X : Cx} {sl : Γ → Sl} {sl' : Γ' → Sl} {a b c : Expr} {pos : Pos} {kr : Kd}
theorem sv_tup3_aoa [Enc ρ] [Enc α] [Enc β] [Enc γ'] {i j l : Nat} {x y z : Str} {px py pz pt : Pos} {kt k2 : Nat} {pt2 : Pos} {fa : Γ → Option α} {fb : Γ → Option β} {fc : Γ → Option γ'} (set : Γ → α → β → γ' → Γ') (h : ∀ g t u v, sl' (set g t u v) = (((sl g).set i (some (.a, enc t))).set j (some (.o, enc u))).set l (some (.a, enc v)))
    (hN : X.N.Nodup) (ha : PV X sl .a a fa) (hb : PV X sl .f b fb) (hc' : PV X sl .a c fc) (hi : X.N[i]? = some x := by rfl) (hj : X.N[j]? = some y := by rfl) (hl : X.N[l]? = some z := by rfl)
    (hx : Loc X.env.scope x := by first | exact .inl rfl | exact .inr rfl) (hy : Loc X.env.scope y := by first | exact .inl rfl | exact .inr rfl) (hz : Loc X.env.scope z := by first | exact .inl rfl | exact .inr rfl)
    (fx : X.fn x = true ∨ X.env.scope.names.lookup x = some .local := by first | exact .inl rfl | exact .inr rfl) (fy : X.fn y = true ∨ X.env.scope.names.lookup y = some .local := by first | exact .inl rfl | exact .inr rfl) (fz : X.fn z = true ∨ X.env.scope.names.lookup z = some .local := by first | exact .inl rfl | exact .inr rfl) (hc : X.calm = true := by rfl)
    (h1 : starEach [a, b, c] X.env = (false, eval a X.env) :: starEach [b, c] X.env := by rfl) (h2 : starEach [b, c] X.env = (false, eval b X.env) :: starEach [c] X.env := by rfl) (h3 : starEach [c] X.env = (false, eval c X.env) :: starEach [] X.env := by rfl)
    (hs : swapsWithSole [.Tuple [.Name x px, .Name y py, .Name z pz] kt pt] (.Tuple [a, b, c] k2 pt2) pos.line X.env = pure false := by rfl)
    (hw : swappedStores [.Tuple [.Name x px, .Name y py, .Name z pz] kt pt] (.Tuple [a, b, c] k2 pt2) X.env = pure none := by rfl)
    (q1 : (assignEach [.Tuple [.Name x px, .Name y py, .Name z pz] kt pt] X.env).map (·.2) = [assign (.Tuple [.Name x px, .Name y py, .Name z pz] kt pt) X.env] := by rfl)
    (q2 : (assignEach [.Name x px, .Name y py, .Name z pz] X.env).length = 3 := by rfl) (q3 : (assignEach [.Name x px, .Name y py, .Name z pz] X.env).findIdx? (·.1) = none := by rfl)
    (q4 : (assignEach [.Name x px, .Name y py, .Name z pz] X.env).map (·.2) = assign (.Name x px) X.env :: (assignEach [.Name y py, .Name z pz] X.env).map (·.2) := by rfl)
    (q5 : (assignEach [.Name y py, .Name z pz] X.env).map (·.2) = assign (.Name y py) X.env :: (assignEach [.Name z pz] X.env).map (·.2) := by rfl)
    (q6 : (assignEach [.Name z pz] X.env).map (·.2) = assign (.Name z pz) X.env :: (assignEach [] X.env).map (·.2) := by rfl) :
    SV (ρ := ρ) X sl sl' kr (.Assign [.Tuple [.Name x px, .Name y py, .Name z pz] kt pt] (.Tuple [a, b, c] k2 pt2) pos) (fun g => (fa g).bind fun t => (fb g).bind fun u => (fc g).bind fun v => some (.nx (set g t u v))) :=
  PS.imp (ps_asg (pe_tup (pa_cons ha (pa_cons hb (pa_cons hc' pa_nil h3) h2) h1)) (pg_tup hc (pgs_cons (pg_name hN hi hx fx) (pgs_cons (pg_name hN hj hy fy) (pgs_cons (pg_name hN hl hz fz) pgs_nil q6) q5) q4) q2 q3) hs hw q1) fun D σ H ⟨γ, S0, S, o, E, hf, p⟩ => by
    obtain ⟨t, u, e1, e2, e3⟩ := bind2 hf
    obtain ⟨v, e4, e5⟩ := bind1 e3
    cases e5
    refine ⟨γ, S0, S, t, E, e1, fun v1 H1 s1 r1 => ⟨γ, S0, S, u, E.same s1, e2, fun v2 H2 s2 r2 => ?_⟩⟩
    have E1 := E.same s1
    obtain ⟨p2, g2, m2, E2⟩ := E1.wait s2 r2
    refine ⟨γ, S0, _, v, E2, e4, fun v3 H3 s3 r3 => ⟨by show 3 ≤ sizeLine; decide, fun q hq => ?_⟩⟩
    have s4 := same_new (o := .tup [v1, v2, v3]) hq
    have s34 := s3.trans s4
    have s24 := s2.trans s34
    obtain ⟨p3, g3, m3, E3⟩ := (E1.seta (i := i) r1).seto' (i := j) s24 (r2.fwd s34)
    have e : p2 = p3 := by
      have := g2.symm.trans g3
      injection this
    subst e
    refine ⟨q, [v1, v2, v3], rfl, .of upd_same, rfl, v1, _, rfl, v2, _, rfl, v3, _, rfl, rfl, ?_⟩
    refine p _ _ _ ?_ ((Mv.same s1).trans m3)
    rw [h]
    exact E3.seta (Rp.mv (.same s4) _ _ r3)
end PL

/-! PL17: tuple of a tuple, constants that are tuples, in of tuples. -/
namespace PL
open PySem PySem.Spec L2
open Enc (enc)
variable {Γ Γ' ρ τ α β σ' : Type} {X : Cx} {sl : Γ → Sl} {e a b c : Expr} {k : Kd} {pos p : Pos}
theorem pv_tupleT [Enc τ] [NoL τ] {fa : Γ → Option τ} (ds : τ → List PyData) (hd : ∀ t, enc t = .tuple (ds t)) (hg : Gl X "tuple") (hm : X.mg "tuple" = none) (ha : PV X sl .b a fa) (he : starEach [a] X.env = (false, eval a X.env) :: starEach [] X.env := by rfl) :
    PV X sl .a (.Call (.Name "tuple" p) [a] [] pos) (fun s => (fa s).bind fun x => some x) :=
  pv_c1 (fun h => pe_callTy call_tuple_of hg hm (by decide +kernel) (pa_cons h pa_nil he) (he := he)) (fun T H x u t Q hT r e q => by
    cases e
    have r2 : Rp X.K H T (enc u) x := Rb.rp r
    rw [hd u] at r
    obtain ⟨p, xs, rfl, h1, h2⟩ := rb_tup r
    exact ⟨p, xs, rfl, .inr ⟨h1, q _ H (Same.refl H) r2⟩⟩) ha
/-- a constant of the top that is a tuple of flat things -/
theorem pv_gtup [Enc τ] {x : Str} {ad : Addr} {xs : List V} (t : τ) (ds : List PyData) (hd : enc t = .tuple ds) (hr : ∀ H T, RpA X.K H T ds xs) (hg : Gl X x) (hm : X.mg x = some (.ref ad)) (hk : KTp X.K ad xs) (hb : (x == ("__debug__" : Str)) = false := by decide) : PV X sl .a (.Name x pos) (fun _ => some t) :=
  PE.imp (pe_glob hg hm (v := .ref ad) rfl hb) fun σ H Q ⟨g, S0, S, t', E, hf, q⟩ => by
    cases hf
    refine q _ H (Same.refl H) ?_
    show Rp X.K H _ (enc t) (.ref ad)
    rw [hd]
    exact ⟨ad, xs, rfl, .inr hk, hr H _⟩
class FlV (τ : Type) [Enc τ] [Sc τ] [DecidableEq τ] : Prop where
  fl : ∀ t : τ, flatV (Sc.val t) = true
  eq : ∀ s t : τ, eqV (Sc.val s) (Sc.val t) = decide (s = t)
instance : FlV Int := ⟨fun _ => rfl, fun s t => by show (s == t) = decide (s = t); exact Bool.beq_eq_decide_eq s t⟩
instance : FlV Tx := ⟨fun _ => rfl, fun s t => by
  show ((⟨s.cs.toArray⟩ : Str) == (⟨t.cs.toArray⟩ : Str)) = decide (s = t)
  rw [Bool.eq_iff_iff, beq_iff_eq, decide_eq_true_iff]
  constructor
  · intro e
    exact Sc.inj s t (congrArg V.str e)
  · intro e; rw [e]⟩
section
variable [Enc τ] [Sc τ] [DecidableEq τ] [FlV τ] [Enc σ']
theorem rpa_sc {K : PySem.W.Frag} {H : Hp} {T : Ad} : ∀ {t : List τ} {xs : List V}, RpA K H T (t.map enc) xs → xs = t.map Sc.val
  | [], xs, h => h
  | a :: t, xs, h => by
    obtain ⟨v, vs, rfl, h1, h2⟩ := h
    rw [List.map_cons, rpa_sc h2, Sc.rp (.inl h1)]
theorem inV_sc (x : τ) : ∀ t : List τ, inV (Sc.val x) (t.map Sc.val) = decide (x ∈ t)
  | [] => by simp [inV]
  | a :: t => by
    have := inV_sc x t
    unfold inV at this ⊢
    rw [List.map_cons, List.any_cons, this, FlV.eq]
    by_cases h : x = a
    · subst h; simp
    · simp [h, Ne.symm h]
theorem flat_sc (t : List τ) : (t.map Sc.val).all flatV = true := by
  rw [List.all_eq_true]
  intro v hv
  obtain ⟨x, _, rfl⟩ := List.mem_map.mp hv
  exact FlV.fl x
def c_inU (ds : σ' → List τ) (hd : ∀ t, enc t = .tuple ((ds t).map enc)) : Cmp X .In τ σ' (fun x y => some (decide (x ∈ ds y))) := ⟨_, op_in_seq, fun T H x y u w t Q hT r1 r2 e q => by
  cases e
  rw [hd w] at r2
  obtain ⟨p, xs, rfl, h1, h2⟩ := rb_tup r2
  rw [Sc.rp r1]
  rw [rpa_sc h2] at h1
  exact ⟨p, _, rfl, .inr h1, FlV.fl u, flat_sc _, q _ H (Same.refl H) (by rw [inV_sc]; rfl)⟩⟩
def c_ninU (ds : σ' → List τ) (hd : ∀ t, enc t = .tuple ((ds t).map enc)) : Cmp X .NotIn τ σ' (fun x y => some (!decide (x ∈ ds y))) := ⟨_, op_notIn_seq, fun T H x y u w t Q hT r1 r2 e q => by
  cases e
  rw [hd w] at r2
  obtain ⟨p, xs, rfl, h1, h2⟩ := rb_tup r2
  rw [Sc.rp r1]
  rw [rpa_sc h2] at h1
  exact ⟨p, _, rfl, .inr h1, FlV.fl u, flat_sc _, q _ H (Same.refl H) (by rw [inV_sc]; rfl)⟩⟩
end
def c_isB : Cmp X .Is Bool Bool (fun x y => some (decide (x = y))) := ⟨_, op_isBl, fun T H x y u w t Q hT r1 r2 e q => by
  cases e
  exact ⟨u, w, Sc.rp r1, Sc.rp r2, q _ H (Same.refl H) rfl⟩⟩
def c_isntB : Cmp X .IsNot Bool Bool (fun x y => some (!decide (x = y))) := ⟨_, op_notBl, fun T H x y u w t Q hT r1 r2 e q => by
  cases e
  exact ⟨u, w, Sc.rp r1, Sc.rp r2, q _ H (Same.refl H) rfl⟩⟩
end PL

/-! PL18: enumerate of a text and of a tuple; walks over tuples. -/
namespace PL
open PySem PySem.Spec L2 PyProof.Rows
open Enc (enc)
/-- the signs of a text, each in a new pair -/
def ItS (x : Str) : It :=
  ⟨fun i _ => i < x.cps.size, fun i H v H' => ∃ T c, v = .ref T ∧ H T = none ∧ H' = upd H T (.tup [.int (i : Nat), .str ⟨#[c]⟩]) ∧ x.cps[i]? = some c, fun i _ => x.cps.size ≤ i⟩
theorem turn_enumS {P : Program} {w : World} {K : PySem.W.Frag} {elts : List Expr} {kk : Nat} {tpos : Pos} (e it : Addr) (x : Str) (t : Tok) :
    Turn P w K (.Tuple elts kk tpos) (ItS x) [e, it] e (fun i h => (∃ old, IsEnum h e it ((i : Nat) : Int) old) ∧ h.IsStrIter it (strIterType x) x t i ∧ e ≠ it) where
  mem := by simp
  obj := fun i h st b hb => by
    obtain ⟨⟨old, he⟩, ⟨o, ho, hc, hd⟩, _⟩ := st
    have e' : b = e ∨ b = it := by simpa using hb
    rcases e' with z | z
    · rw [z]; exact ⟨_, he, fun v q => nomatch q⟩
    · rw [z]; exact ⟨o, ho, fun v q => by rw [hd] at q; cases q⟩
  keep := fun i h h' st k => by
    obtain ⟨⟨old, he⟩, ⟨o, ho, r⟩, hne⟩ := st
    exact ⟨⟨old, k e (by simp) _ he⟩, ⟨o, k it (by simp) o ho, r⟩, hne⟩
  item := by
    intro X hP hw hK hc i pins s σ H E I hf st hg
    subst hP hw hK
    obtain ⟨⟨old, he⟩, hit, hne⟩ := st
    have hel : e < s.heap.objs.size := Heap.lt_size he
    have hil : it < s.heap.objs.size := by obtain ⟨_, q, _⟩ := hit; exact Heap.lt_size q
    refine wpAny_pyNext_enum_itemD (Draws.text (A := X.A.in1) (I.ok.hd hc) it x t) he hit hg hne (by simp [hne]) fun u h' tk hu ho hit' hT hsz hk => ?_
    obtain ⟨c, t2, hc2, rfl⟩ := hu
    refine ⟨_, rfl, wpAny_letOwnedTupleGo_enum (s := { s with heap := h', toks := tk + 1 }) ho fun h'' he' sb => ?_⟩
    have hT2 : h''.get? s.heap.objs.size = some { cls := .type "tuple", data := .seq #[.int i tk, .str ⟨#[c]⟩ t2] } := (sb.2 _ (Nat.ne_of_gt hel)).trans hT
    have new : ObjOk X.prog X.w (upd H s.heap.objs.size (.tup [.int (i : Nat), .str ⟨#[c]⟩])) h'' s.heap.objs.size (.tup [.int (i : Nat), .str ⟨#[c]⟩]) :=
      ⟨by show 2 ≤ sizeLine; decide, [.int i tk, .str ⟨#[c]⟩ t2], .cons ⟨_, rfl⟩ (.cons ⟨_, rfl⟩ .nil), ⟨_, hT2, rfl, _, rfl⟩⟩
    have I1 : Inv X pins σ (upd H s.heap.objs.size (.tup [.int (i : Nat), .str ⟨#[c]⟩])) { s with heap := h'', toks := tk + 1 } :=
      I.turnedNew (ch := [e, it]) (fun b ob hb q => (sb.2 b (fun z => hb (by simp [z]))).trans (hk b ob (fun z => hb (by simp [z])) (fun z => hb (by simp [z])) q)) hf (Nat.le_refl _) new
    refine ⟨.ref s.heap.objs.size, _, I1, rfl, ⟨_, c, rfl, I.hok.fresh (Nat.le_refl _), rfl, hc2⟩, ⟨⟨.str ⟨#[c]⟩ t2, ?_⟩, ?_, hne⟩, fun b hb => ?_⟩
    · have e1 : ((i + 1 : Nat) : Int) = (i : Int) + 1 := by omega
      rw [e1]; exact he'
    · obtain ⟨o, ho2, r⟩ := hit'
      exact ⟨o, (sb.2 it (Ne.symm hne)).trans ho2, r⟩
    · have hb' : b < s.heap.objs.size := by
        have e' : b = e ∨ b = it := by simpa using hb
        rcases e' with z | z
        · rw [z]; exact hel
        · rw [z]; exact hil
      rw [upd_ne (Nat.ne_of_lt hb')]
      exact (hf b hb).1
  done := by
    intro X hP hw hK hc i pins s σ H E I hf st hg
    subst hP hw hK
    obtain ⟨⟨old, he⟩, hit, hne⟩ := st
    obtain ⟨f0, f1, f2, f3, f4, f5⟩ := hf it (by simp)
    have hx : x.cps[i]? = none := Array.getElem?_eq_none hg
    have D : Draws X.prog X.w X.A.in1 it [it] 0 (fun _ _ => True) (fun _ h => h.IsStrIter it (strIterType x) x t i) := {
      live := fun _ h st => let ⟨o, ho, _⟩ := st; ⟨o, ho⟩
      frame := fun _ h h' st k => let ⟨o, ho, r⟩ := st; ⟨o, k it (by simp) o ho, r⟩
      item := fun j s Q E hj => absurd hj (Nat.not_lt_zero _)
      done := fun s Q E st hE => by
        cases ha : x.cps.all (· < 128)
        · simp only [strIterType, ha, Bool.false_eq_true, if_false] at st
          exact wpAny_nextOf_wide_end (I.ok.hd hc) st hx hE
        · simp only [strIterType, ha, if_true] at st
          exact wpAny_nextOf_ascii_end (I.ok.hd hc) st hx hE }
    exact wpAny_pyNext_enum_endD D he hit fun h' eb => ⟨rfl, I.turned (t' := s.toks) (fun b o hb q => eb b o hb q) f0 f1 f3 f4 f5⟩
  self := fun A i s Q E st h => let ⟨⟨_, he⟩, _⟩ := st; wpAny_pyIter_enum he h
def iEnumS (ta : TA) : TI := fun σ H R => ta σ H fun vs H1 => ∃ x, vs = [.str x] ∧ R (ItS x) H1
theorem pi_enumS {X : Cx} {e : Expr} {ta : TA} {p pos tpos : Pos} {elts : List Expr} {kk : Nat} (hg : Gl X "enumerate") (hm : X.mg "enumerate" = none) (ha : PA X [e] ta) (hs : starEach [e] X.env = [(false, eval e X.env)] := by rfl) :
    PI X (.Tuple elts kk tpos) (.Call (.Name "enumerate" p) [e] [] pos) (iEnumS ta) := by
  refine ⟨fun pins s σ H R I h => ?_⟩
  refine Call_ (ld_blt I hg hm boot_enumerate (PyProof.Rows.callWith_type1 (thn (ha.run pos pins s σ H _ I h) fun us s1 ⟨vs, H1, I1, r1, q1⟩ => ?_) hs rfl))
  obtain ⟨x, ex, q⟩ := q1
  subst ex
  cases r1 with
  | cons r rr =>
    cases rr
    obtain ⟨t, rfl⟩ := r
    refine call_enumerate_str fun h' he hit hsz hk => wpAny_pyIter_enum he ?_
    have I2 : Inv X pins σ H1 { s1 with heap := h' } := I1.kept (t' := s1.toks) hk
    refine ⟨s1.heap.objs.size + 1, [s1.heap.objs.size + 1, s1.heap.objs.size], _, _, H1, rfl, I2, turn_enumS (s1.heap.objs.size + 1) s1.heap.objs.size x t, ⟨⟨.none, he⟩, hit, Nat.succ_ne_self _⟩, fun b hb => ?_, q⟩
    have e' : b = s1.heap.objs.size + 1 ∨ b = s1.heap.objs.size := by simpa using hb
    have hle : s1.heap.objs.size ≤ b := by
      rcases e' with z | z
      · rw [z]; exact Nat.le_add_right _ _
      · rw [z]; exact Nat.le_refl _
    exact I1.fpOk hle (I1.hok.fresh hle)
/-! a tuple -/
def ItT (K : PySem.W.Frag) (a : Addr) : It :=
  ⟨fun i H => ∃ (xs : List V) (x : V), SqT K H a xs ∧ xs[i]? = some x, fun i H v H' => ∃ T x, v = .ref T ∧ H T = none ∧ H' = upd H T (.tup [.int (i : Nat), x]) ∧ ∀ xs, SqT K H a xs → xs[i]? = some x, fun i H => ∃ xs : List V, SqT K H a xs ∧ xs.length ≤ i⟩
theorem turn_enumT {P : Program} {w : World} {K : PySem.W.Frag} {elts : List Expr} {kk : Nat} {tpos : Pos} (a e it : Addr) :
    Turn P w K (.Tuple elts kk tpos) (ItT K a) [e, it] e (fun i h => (∃ old, IsEnum h e it ((i : Nat) : Int) old) ∧ h.IsTupleIter it a i ∧ e ≠ it ∧ a ≠ it ∧ a ≠ e) where
  mem := by simp
  obj := fun i h st b hb => by
    obtain ⟨⟨old, he⟩, ⟨o, ho, hc, hd⟩, _⟩ := st
    have e' : b = e ∨ b = it := by simpa using hb
    rcases e' with z | z
    · rw [z]; exact ⟨_, he, fun v q => nomatch q⟩
    · rw [z]; exact ⟨o, ho, fun v q => by rw [hd] at q; cases q⟩
  keep := fun i h h' st k => let ⟨⟨old, he⟩, hi, hne⟩ := st; ⟨⟨old, k e (by simp) _ he⟩, hi.at fun o q => k it (by simp) o q, hne⟩
  item := by
    intro X hP hw hK hc i pins s σ H E I hf st hg
    subst hP hw hK
    obtain ⟨⟨old, he⟩, hit, hne, hai, hae⟩ := st
    obtain ⟨xs, x, hq, hx⟩ := hg
    obtain ⟨its, rv, p, hz⟩ := I.tuple hq
    obtain ⟨u, hu, ru⟩ := rv.get hx
    have hel : e < s.heap.objs.size := Heap.lt_size he
    have hil : it < s.heap.objs.size := by obtain ⟨_, q, _⟩ := hit; exact Heap.lt_size q
    have hlt : i < its.toArray.size := by
      have := (List.getElem?_eq_some_iff.mp hu).1
      simpa using this
    refine wpAny_pyNext_enum_itemD (Draws.tuple (A := X.A.in1) (I.ok.hd hc) it a hai its.toArray) he ⟨hit, p⟩ hlt hne (by simp [hne, Ne.symm hae]) fun u2 h' tk hu2 ho hit' hT hsz hk => ?_
    have e2 : u2 = u := by
      have : its[i]? = some u2 := by simpa using hu2
      rw [hu] at this
      exact (Option.some.inj this).symm
    subst e2
    refine ⟨_, rfl, wpAny_letOwnedTupleGo_enum (s := { s with heap := h', toks := tk + 1 }) ho fun h'' he' sb => ?_⟩
    have hT2 : h''.get? s.heap.objs.size = some { cls := .type "tuple", data := .seq #[.int i tk, u2] } := (sb.2 _ (Nat.ne_of_gt hel)).trans hT
    have new : ObjOk X.prog X.w (upd H s.heap.objs.size (.tup [.int (i : Nat), x])) h'' s.heap.objs.size (.tup [.int (i : Nat), x]) :=
      ⟨by show 2 ≤ sizeLine; decide, [.int i tk, u2], .cons ⟨_, rfl⟩ (.cons ru .nil), ⟨_, hT2, rfl, _, rfl⟩⟩
    have I1 : Inv X pins σ (upd H s.heap.objs.size (.tup [.int (i : Nat), x])) { s with heap := h'', toks := tk + 1 } :=
      I.turnedNew (ch := [e, it]) (fun b ob hb q => (sb.2 b (fun z => hb (by simp [z]))).trans (hk b ob (fun z => hb (by simp [z])) (fun z => hb (by simp [z])) q)) hf (Nat.le_refl _) new
    refine ⟨.ref s.heap.objs.size, _, I1, rfl, ⟨_, x, rfl, I.hok.fresh (Nat.le_refl _), rfl, fun ys hy => by rw [I.tuple_inj hy hq]; exact hx⟩, ⟨⟨u2, ?_⟩, hit'.1.at fun o q => (sb.2 it (Ne.symm hne)).trans q, hne, hai, hae⟩, fun b hb => ?_⟩
    · have e1 : ((i + 1 : Nat) : Int) = (i : Int) + 1 := by omega
      rw [e1]; exact he'
    · have hb' : b < s.heap.objs.size := by
        have e' : b = e ∨ b = it := by simpa using hb
        rcases e' with z | z
        · rw [z]; exact hel
        · rw [z]; exact hil
      rw [upd_ne (Nat.ne_of_lt hb')]
      exact (hf b hb).1
  done := by
    intro X hP hw hK hc i pins s σ H E I hf st hg
    subst hP hw hK
    obtain ⟨⟨old, he⟩, hit, hne, hai, hae⟩ := st
    obtain ⟨xs, hq, hx⟩ := hg
    obtain ⟨its, rv, p, hz⟩ := I.tuple hq
    obtain ⟨f0, f1, f2, f3, f4, f5⟩ := hf it (by simp)
    have hl := rv.length
    have D : Draws X.prog X.w X.A.in1 it [it, a] 0 (fun _ _ => True) (fun _ h => h.IsTupleIter it a i ∧ h.IsTuple a its.toArray) := {
      live := fun _ h st => let ⟨o, ho, _⟩ := st.1; ⟨o, ho⟩
      frame := fun _ h h' st k => ⟨st.1.at fun o q => k it (by simp) o q, st.2.at fun o q => k a (by simp) o q⟩
      item := fun j s Q E hj => absurd hj (Nat.not_lt_zero _)
      done := fun s Q E st hE => wpAny_nextOf_tuple_end (I.ok.hd hc) st.1 st.2 (by simp; omega) hE }
    exact wpAny_pyNext_enum_endD D he ⟨hit, p⟩ fun h' eb => ⟨rfl, I.turned (t' := s.toks) (fun b o hb q => eb b o hb q) f0 f1 f3 f4 f5⟩
  self := fun A i s Q E st h => let ⟨⟨_, he⟩, _⟩ := st; wpAny_pyIter_enum he h
theorem meets_enumerate_newT (l : Addr) (items : Array Value) (n : Nat) (dct : Option Addr) (sl : Array (Option Value)) :
    Meets (Builtin.«enumerate.__new__» ⟨[.type "enumerate", .ref l], []⟩) (fun _ R s => s.heap.get? l = some { cls := .type "tuple", dict := dct, data := .seq items n, slots := sl } ∧
      R (.ok (.ret (.ref (s.heap.push { cls := .type "tuple_iterator", data := .fields #[.ref l, .int 0 0] }).objs.size)))
        { s with heap := (s.heap.push { cls := .type "tuple_iterator", data := .fields #[.ref l, .int 0 0] }).push { cls := .type "enumerate", data := .fields #[.none, .bool false, .ref s.heap.objs.size, rawInt 0, .none, .none] } }) :=
  .of_wp fun prog w A R s h => by
    obtain ⟨hp, g, d, tk, os⟩ := s; obtain ⟨hl, h⟩ := h
    have hsub := sub_enumerate
    have hL : Heap.IsTuple (Shared.heap ⟨hp, g, d, tk, os⟩) l items := ⟨_, hl, rfl, n, rfl⟩
    wp_walk using AutoSeq1.wpAny_loadPart' hl
    refine wpAny_stack_any fun st => wpAny_pure ?_
    split
    · rename_i c _ _ _ _ _
      cases (c == Value.type "enumerate")
      · wp_walk using AutoSeq1.wpAny_loadPart' hl, wpAny_pyIter_tuple hL
        exact ⟨_, rfl, h⟩
      · wp_walk using AutoSeq1.wpAny_loadPart' hl, wpAny_pyIter_tuple hL
        exact ⟨_, rfl, h⟩
    · wp_walk using AutoSeq1.wpAny_loadPart' hl, wpAny_pyIter_tuple hL
      exact ⟨_, rfl, h⟩
theorem call_enumerate_tuple {prog : Program} {w : World} {A : Around} {E : Value → Shared → Prop} {s : Shared} {l : Addr} {items : Array Value} {Q : Value → Shared → Prop} (hL : s.heap.IsTuple l items)
    (h : ∀ h', IsEnum h' (s.heap.objs.size + 1) s.heap.objs.size 0 .none → h'.IsTupleIter s.heap.objs.size l 0 → h'.objs.size = s.heap.objs.size + 2 →
      (∀ b o, s.heap.get? b = some o → h'.get? b = some o) → Q (.ref (s.heap.objs.size + 1)) { s with heap := h' }) :
    wpAny (model prog w) A (call (.type "enumerate") [.ref l]) Q E s := by
  obtain ⟨⟨c, dct, dt, sl⟩, hl, hc, n, hd⟩ := hL
  replace hc : c = .type "tuple" := hc
  replace hd : dt = .seq items n := hd
  subst hc hd
  refine callType_new F.called_enumerate (by decide) (F.typeCall_enumerate_1 _) (F.newCall_enumerate_1 _) (fun obj => F.args_object_init_2 obj _) F.entry_enumerate_new
    (meets_enumerate_newT l items n dct sl) ⟨hl, ?_⟩
  have hz : (s.heap.push { cls := .type "tuple_iterator", data := .fields #[.ref l, .int 0 0] }).objs.size = s.heap.objs.size + 1 := Heap.size_push ..
  show _ ∧ _
  rw [hz]
  have he : IsEnum ((s.heap.push { cls := .type "tuple_iterator", data := .fields #[.ref l, .int 0 0] }).push
      { cls := .type "enumerate", data := .fields #[.none, .bool false, .ref s.heap.objs.size, rawInt 0, .none, .none] }) (s.heap.objs.size + 1) s.heap.objs.size 0 .none := by
    have := Heap.get?_push_size (s.heap.push { cls := .type "tuple_iterator", data := .fields #[.ref l, .int 0 0] })
      (o := { cls := .type "enumerate", data := .fields #[.none, .bool false, .ref s.heap.objs.size, rawInt 0, .none, .none] }) rfl
    rw [hz] at this; exact this
  refine ⟨⟨_, he, rfl⟩, h _ he ⟨_, Heap.get?_push_of_some _ (Heap.get?_push_size _ rfl), rfl, rfl⟩ (by rw [Heap.size_push, hz]) fun b o x => Heap.get?_push_of_some _ (Heap.get?_push_of_some _ x)⟩
def iEnumT (K : PySem.W.Frag) (ta : TA) : TI := fun σ H R => ta σ H fun vs H1 => ∃ a xs, vs = [.ref a] ∧ SqT K H1 a xs ∧ R (ItT K a) H1
theorem pi_enumT {X : Cx} {e : Expr} {ta : TA} {p pos tpos : Pos} {elts : List Expr} {kk : Nat} (hg : Gl X "enumerate") (hm : X.mg "enumerate" = none) (ha : PA X [e] ta) (hs : starEach [e] X.env = [(false, eval e X.env)] := by rfl) :
    PI X (.Tuple elts kk tpos) (.Call (.Name "enumerate" p) [e] [] pos) (iEnumT X.K ta) := by
  refine ⟨fun pins s σ H R I h => ?_⟩
  refine Call_ (ld_blt I hg hm boot_enumerate (PyProof.Rows.callWith_type1 (thn (ha.run pos pins s σ H _ I h) fun us s1 ⟨vs, H1, I1, r1, q1⟩ => ?_) hs rfl))
  obtain ⟨a, xs, ex, hq, q⟩ := q1
  subst ex
  cases r1 with
  | cons r rr =>
    cases rr
    cases r
    obtain ⟨its, rv, p', hz⟩ := I1.tuple hq
    have hla : a < s1.heap.objs.size := by obtain ⟨o, q, _⟩ := p'; exact Heap.lt_size q
    refine call_enumerate_tuple p' fun h' he hit hsz hk => wpAny_pyIter_enum he ?_
    have I2 : Inv X pins σ H1 { s1 with heap := h' } := I1.kept (t' := s1.toks) hk
    refine ⟨s1.heap.objs.size + 1, [s1.heap.objs.size + 1, s1.heap.objs.size], _, _, H1, rfl, I2, turn_enumT a (s1.heap.objs.size + 1) s1.heap.objs.size, ⟨⟨.none, he⟩, hit, Nat.succ_ne_self _, Nat.ne_of_lt hla, Nat.ne_of_lt (Nat.lt_succ_of_lt hla)⟩, fun b hb => ?_, q⟩
    have e' : b = s1.heap.objs.size + 1 ∨ b = s1.heap.objs.size := by simpa using hb
    have hle : s1.heap.objs.size ≤ b := by
      rcases e' with z | z
      · rw [z]; exact Nat.le_add_right _ _
      · rw [z]; exact Nat.le_refl _
    exact I1.fpOk hle (I1.hok.fresh hle)
variable {Γ Γ' ρ τ α β σ' ι : Type} {X : Cx} {sl : Γ → Sl} {e a b c : Expr} {k : Kd} {pos p : Pos}
theorem piv_enumS {elts : List Expr} {kk : Nat} {p tpos : Pos} {f : Γ → Option Tx} (hg : Gl X "enumerate") (hm : X.mg "enumerate" = none) (ha : PV X sl .b a f) (hs : starEach [a] X.env = [(false, eval a X.env)] := by rfl) :
    IV X sl .a (.Tuple elts kk tpos) (.Call (.Name "enumerate" p) [a] [] pos) (fun s => (f s).bind fun x => some (x.cs.zipIdx.map fun q => T2.mk (q.2 : Int) (⟨[q.1]⟩ : Tx))) :=
  PI.imp (pi_enumS hg hm (pa_cons ha pa_nil hs) hs) fun σ H R ⟨g, S0, S, xs, E, hf, q⟩ => by
    obtain ⟨t, e1, e2⟩ := bind1 hf
    cases e2
    refine ⟨g, S0, S, t, E, e1, fun v H1 s1 r1 => ?_⟩
    refine ⟨_, by rw [rb_t r1], q _ H1 s1 fun S2 H2 m s d => ?_⟩
    refine ⟨fun i hi => by show Array.size _ ≤ i; simpa using hi, fun i x hx => ?_⟩
    rw [List.getElem?_map, List.getElem?_zipIdx] at hx
    cases hc : t.cs[i]? with
    | none => rw [hc] at hx; cases hx
    | some c =>
      rw [hc] at hx
      cases hx
      obtain ⟨hl, _⟩ := List.getElem?_eq_some_iff.mp hc
      refine ⟨by show i < Array.size _; simpa using hl, fun v H3 hy => ?_⟩
      obtain ⟨T, c', rfl, hT, rfl, hc'⟩ := hy
      have e3 : t.cs[i]? = some c' := by simpa using hc'
      rw [hc] at e3
      cases e3
      refine ⟨same_new hT, rp_newT d hT ⟨_, _, rfl, ?_, .one rfl⟩⟩
      simp
      rfl
theorem piv_enumT [Enc τ] [Enc ι] {elts : List Expr} {kk : Nat} {p tpos : Pos} {f : Γ → Option τ} (ds : τ → List ι) (hd : ∀ t, enc t = .tuple ((ds t).map enc)) [NoL τ] (hg : Gl X "enumerate") (hm : X.mg "enumerate" = none) (ha : PV X sl .b a f) (hs : starEach [a] X.env = [(false, eval a X.env)] := by rfl) :
    IV X sl .a (.Tuple elts kk tpos) (.Call (.Name "enumerate" p) [a] [] pos) (fun s => (f s).bind fun x => some ((ds x).zipIdx.map fun q => T2.mk (q.2 : Int) q.1)) :=
  PI.imp (pi_enumT hg hm (pa_cons ha pa_nil hs) hs) fun σ H R ⟨g, S0, S, xs, E, hf, q⟩ => by
    obtain ⟨l, e1, e2⟩ := bind1 hf
    cases e2
    refine ⟨g, S0, S, l, E, e1, fun v H1 s1 r1 => ?_⟩
    have r1' : Rp X.K H1 (un S S0) (enc l) v := Rb.rp r1
    rw [hd] at r1'
    obtain ⟨a, vs, rfl, h1, h2⟩ := r1'
    refine ⟨a, vs, rfl, h1.sq, q _ H1 s1 fun S2 H2 m s d => ?_⟩
    have h3 := (h1.mv m.un).sq
    have r2 : RpA X.K H2 (un S2 S0) ((ds l).map enc) vs := RpA.mv m.un _ _ h2
    refine ⟨fun i hi => ⟨vs, h3, by rw [map_len r2]; simpa using hi⟩, fun i x hx => ?_⟩
    obtain ⟨y, hy, rfl⟩ : ∃ y, (ds l)[i]? = some y ∧ x = T2.mk (i : Int) y := by
      rw [List.getElem?_map, List.getElem?_zipIdx] at hx
      cases h : (ds l)[i]? with
      | none => rw [h] at hx; cases hx
      | some y => rw [h] at hx; cases hx; exact ⟨y, rfl, by simp⟩
    obtain ⟨v, g1, g2⟩ := map_get r2 hy
    refine ⟨⟨vs, v, h3, g1⟩, fun w H3 hy => ?_⟩
    obtain ⟨T, z, rfl, hT, rfl, hz⟩ := hy
    have e3 := hz vs h3
    rw [g1] at e3
    cases e3
    exact ⟨same_new hT, rp_newT d hT ⟨_, _, rfl, rfl, .one g2⟩⟩
theorem piv_tup [Enc τ] [Enc ι] {tg : Expr} {f : Γ → Option τ} (ds : τ → List ι) (hd : ∀ t, enc t = .tuple ((ds t).map enc)) [NoL τ] (h : PV X sl .b e f) : IV X sl .a tg e (fun s => (f s).bind fun x => some (ds x)) := PI.imp (pi_tup h) fun σ H R ⟨g, S0, S, xs, E, hf, q⟩ => by
  obtain ⟨l, e1, e2⟩ := bind1 hf
  cases e2
  refine ⟨g, S0, S, l, E, e1, fun v H1 s1 r1 => ?_⟩
  have r1' : Rp X.K H1 (un S S0) (enc l) v := Rb.rp r1
  rw [hd] at r1'
  obtain ⟨a, vs, rfl, h1, h2⟩ := r1'
  refine ⟨a, rfl, ⟨vs, h1.sq⟩, q _ H1 s1 fun S2 H2 m s d => ?_⟩
  have h3 := (h1.mv m.un).sq
  have r2 : RpA X.K H2 (un S2 S0) ((ds l).map enc) vs := RpA.mv m.un _ _ h2
  refine ⟨fun i hi => ⟨vs, h3, by rw [map_len r2]; exact hi⟩, fun i x hx => ?_⟩
  obtain ⟨v, g1, g2⟩ := map_get r2 hx
  refine ⟨⟨vs, v, h3, g1⟩, fun w H3 hy => ?_⟩
  obtain ⟨rfl, hz⟩ := hy
  have e3 := hz vs h3
  rw [g1] at e3
  cases e3
  exact ⟨Same.refl _, g2⟩
end PL

/-! PL19: lists taken apart, reversed texts, [x] * n, divmod, sorted pairs. -/
namespace PL
open PySem PySem.Spec L2 PyProof.Rows
open Enc (enc)
/-! ### a, b = xs -/
structure LU2 (τ : Type) where
  mk ::
  a : τ
  b : τ
structure LU3 (τ : Type) where
  mk ::
  a : τ
  b : τ
  c : τ
instance {τ : Type} [Enc τ] : Enc (LU2 τ) := ⟨fun t => .list [enc t.a, enc t.b]⟩
instance {τ : Type} [Enc τ] : Enc (LU3 τ) := ⟨fun t => .list [enc t.a, enc t.b, enc t.c]⟩
def toLU2 {τ : Type} : List τ → Option (LU2 τ)
  | [a, b] => some ⟨a, b⟩
  | _ => none
def toLU3 {τ : Type} : List τ → Option (LU3 τ)
  | [a, b, c] => some ⟨a, b, c⟩
  | _ => none
section
variable {Γ Γ' Γb ρ τ α β σ' ι : Type} {X : Cx} {sl : Γ → Sl} {slb : Γb → Sl} {e a b c : Expr} {k : Kd} {pos p : Pos}
theorem pv_lu2 [Enc τ] {f : Γ → Option (List τ)} (h : PV X sl k e f) : PV X sl k e (fun s => (f s).bind fun x => toLU2 x) := PE.imp h fun σ H Q ⟨g, S0, S, t, E, hf, q⟩ => by
  obtain ⟨u, h1, hf⟩ := bind1 hf
  refine ⟨g, S0, S, u, E, h1, fun v H' s r => q v H' s ?_⟩
  have : enc u = enc t := by
    unfold toLU2 at hf
    split at hf
    · cases hf; rfl
    · cases hf
  rw [← this]
  exact r
theorem pv_lu3 [Enc τ] {f : Γ → Option (List τ)} (h : PV X sl k e f) : PV X sl k e (fun s => (f s).bind fun x => toLU3 x) := PE.imp h fun σ H Q ⟨g, S0, S, t, E, hf, q⟩ => by
  obtain ⟨u, h1, hf⟩ := bind1 hf
  refine ⟨g, S0, S, u, E, h1, fun v H' s r => q v H' s ?_⟩
  have : enc u = enc t := by
    unfold toLU3 at hf
    split at hf
    · cases hf; rfl
    · cases hf
  rw [← this]
  exact r
theorem gv_lst [Enc ι] {es : List Expr} {kk n : Nat} {set : Γ → ι → Γb} {js : List Nat} (ds : ι → List PyData) (hd : ∀ x, enc x = .list (ds x)) (hl : ∀ x, (ds x).length = n) (h : PGs X es (tGs X.K sl slb ds set js)) (hc : X.calm = true := by rfl)
    (hn : (assignEach es X.env).length = n := by rfl) (hst : (assignEach es X.env).findIdx? (·.1) = none := by rfl) : GV X sl slb (.Tuple es kk pos) set js := PG.imp (pg_lst hc h hn hst) fun v σ H Q ⟨g, S0, S, x, E, r, q⟩ => by
  rw [hd] at r
  obtain ⟨a, xs, rfl, h1, h2⟩ := r
  exact ⟨a, xs, rfl, h1.sq, by rw [h2.length, hl], g, S0, S, x, E, h2, q⟩
end
/-! ### t[::-1] of a text -/
def tRevT (te : TE) : TE := fun σ H Q => te σ H fun x H1 => ∃ z : Str, x = .str z ∧ z.length ≤ sizeLine ∧ Q (.str ⟨z.cps.toList.reverse.toArray⟩) H1
theorem rev_pick (l : List Nat) : ((List.range l.length).map fun k => l.length - 1 - k).filterMap (l.toArray[·]?) = l.reverse := by
  have h := PyProof.Rows.filterMap_get l.toArray ((List.range l.length).map fun k => l.length - 1 - k) (by
    intro i hi
    obtain ⟨k, hk, rfl⟩ := List.mem_map.mp hi
    have := List.mem_range.mp hk
    simp
    omega)
  rw [h, List.map_map]
  apply List.ext_getElem
  · simp
  · intro i h1 h2
    simp only [List.length_map, List.length_range] at h1
    have h3 : l.length - 1 - i < l.length := by omega
    simp [h3]
theorem pe_revT {X : Cx} {e : Expr} {te : TE} {k : Nat} {p1 p2 p3 pos : Pos} (he : PE X e te) : PE X (.Subscript e (.Slice none none (some (.UnaryOp .USub (.Constant (.int 1) k p1) p2)) p3) pos) (tRevT te) := by
  refine ⟨fun pins s σ H Q I h => ?_⟩
  refine Subscript_ (thn (he.run pins s σ H _ I h) fun v s1 ⟨x, H1, I1, r1, q1⟩ => ?_)
  obtain ⟨z, ex, hz, q⟩ := q1
  subst ex
  obtain ⟨t, rfl⟩ := r1
  have hst : PO X (some (.UnaryOp .USub (.Constant (.int 1) k p1) p2)) (tPart (tUn (rU fun i => .int (-i)) (tC (.int 1)))) := po_some (pe_un un_neg pe_int)
  refine wpAny_Slice (thn (po_none.run pins s1 σ H1 (fun o H2 => o = none ∧ H2 = H1) I1 ⟨rfl, rfl⟩) fun vl s2 ⟨l, H2, I2, pl, el, e2⟩ => ?_)
  subst el e2
  refine thn (po_none.run pins s2 σ H2 (fun o H3 => o = none ∧ H3 = H2) I2 ⟨rfl, rfl⟩) fun vu s3 ⟨u, H3, I3, pu, eu, e3⟩ => ?_
  subst eu e3
  refine thn (hst.run pins s3 σ H3 (fun o H4 => o = some (-1) ∧ H4 = H3) I3 ⟨1, rfl, -1, rfl, rfl, rfl⟩) fun vs s4 ⟨o, H4, I4, ps, eo, e4⟩ => ?_
  subst eo e4
  have I5 : Inv X pins σ H4 { s4 with heap := s4.heap.push { cls := .type "slice", data := .fields #[vl, vu, vs] } } := I4.kept (t' := s4.toks) fun b ob q => Heap.get?_push_of_some _ q
  show wpAny (model X.prog X.w) X.A (subscriptTail e (.Slice none none (some (.UnaryOp .USub (.Constant (.int 1) k p1) p2)) p3) (.str z t) (.ref s4.heap.objs.size)) (EP X pins σ Q) X.xe { s4 with heap := s4.heap.push { cls := .type "slice", data := .fields #[vl, vu, vs] } }
  obtain ⟨l, rfl, hl⟩ := IsPart.raw pl
  obtain ⟨u, rfl, hu⟩ := IsPart.raw pu
  obtain ⟨st, rfl, hs⟩ := IsPart.raw ps
  refine tail_any (ops := [.str z t, .ref s4.heap.objs.size]) (typeIs_str _ _ _) (F.slot_str_getitem.lookup) ?_ (by with_unfolding_all rfl)
  refine wpAny_getItem_str_slice (l := l) (u := u) (st := st) ⟨_, Heap.get?_push_size _ rfl, rfl, rfl⟩ (by rw [hs]; rfl) ?_
  have hpick : ((Builtin.Str.strSliceIndices none none (-1) z.length).filterMap (z.cps[·]?)) = z.cps.toList.reverse := by
    rw [PyProof.Rows.picked_rev]
    have := rev_pick z.cps.toList
    have hzl : z.length = z.cps.size := rfl
    rw [hzl]
    simpa using this
  have e1 : sliceMade z t l u st = Made.str ⟨z.cps.toList.reverse.toArray⟩ := by
    rw [← hpick]
    unfold sliceMade slicePicked
    rw [hl, hu, hs]
    rfl
  rw [e1]
  exact ⟨by show (List.toArray _).size ≤ sizeLine; have hz2 : z.cps.size ≤ sizeLine := hz; simpa using hz2, .str _, H4, I5.tok _, ⟨_, rfl⟩, q⟩
section
variable {Γ Γ' Γb ρ τ α β σ' ι : Type} {X : Cx} {sl : Γ → Sl} {slb : Γb → Sl} {e a b c : Expr} {k : Kd} {pos p : Pos}
def tRev (x : Tx) : Option Tx := if x.cs.length ≤ sizeLine then some ⟨x.cs.reverse⟩ else none
theorem pv_revS {fa : Γ → Option Tx} {k0 : Nat} {p1 p2 p3 : Pos} (ha : PV X sl .b a fa) : PV X sl .a (.Subscript a (.Slice none none (some (.UnaryOp .USub (.Constant (.int 1) k0 p1) p2)) p3) pos) (fun s => (fa s).bind fun x => tRev x) :=
  PE.imp (pe_revT ha) fun σ H Q ⟨γ, S0, S, t, E, hf, q⟩ => by
    obtain ⟨u, h1, h2⟩ := bind1 hf
    obtain ⟨hz, rfl⟩ := if_some h2
    refine ⟨γ, S0, S, u, E, h1, fun v H1 s1 r1 => ⟨_, rb_t r1, by show Array.size _ ≤ _; simpa using hz, q _ H1 s1 ?_⟩⟩
    show V.str _ = V.str _
    simp
/-! ### xs * n -/
def lRep (x : List τ) (n : Int) : Option (List τ) := if -(2 ^ 62) ≤ n ∧ n < 2 ^ 62 ∧ x.length * n.toNat ≤ sizeLine then some (List.replicate n.toNat x).flatten else none
theorem rpa_rep {K : PySem.W.Frag} {H : Hp} {T : Ad} {ds : List PyData} {xs : List V} (h : RpA K H T ds xs) : ∀ n, RpA K H T (List.replicate n ds).flatten (List.replicate n xs).flatten
  | 0 => rfl
  | n + 1 => by
    rw [List.replicate_succ, List.replicate_succ, List.flatten_cons, List.flatten_cons]
    exact h.append (rpa_rep h n)
theorem pv_rep [Enc τ] {fa : Γ → Option (List τ)} {fb : Γ → Option Int} (ha : PV X sl .f a fa) (hb : PV X sl .b b fb) : PV X sl .f (.BinOp a .Mult b pos) (fun s => (fa s).bind fun x => (fb s).bind fun y => lRep x y) :=
  PE.imp (pe_op op_rep ha hb) fun σ H Q ⟨γ, S0, S, t, E, hf, q⟩ => by
    obtain ⟨u, w, h1, h2, h3⟩ := bind2 hf
    obtain ⟨⟨hz1, hz2, hz3⟩, rfl⟩ := if_some h3
    refine ⟨γ, S0, S, u, E, h1, fun x H1 s1 r1 => ⟨γ, S0, S, w, E.same s1, h2, fun y H2 s2 r2 => ?_⟩⟩
    obtain ⟨l, rfl, hl, ⟨ds, xs, ed, h4, h5⟩ | ⟨kv, es, ed, _⟩⟩ := r1
    · have ed : ds = u.map enc := by cases ed; rfl
      subst ed
      have hlen := map_len h5
      refine ⟨l, w, xs, rfl, rb_i r2, s2 _ _ h4, by omega, by omega, by rw [hlen]; exact hz3, fun p hp => ?_⟩
      have s12 := s1.trans s2
      refine q _ _ (s12.trans (same_new hp)) ⟨p, rfl, ?_, .inl ⟨_, _, rfl, upd_same, ?_⟩⟩
      · cases e : H p with
        | none => rfl
        | some o => rw [s12 p o e] at hp; cases hp
      · have h6 : RpA X.K H2 (wi (un S S0) l) (u.map enc) xs := RpA.mv (.same s2) _ _ h5
        have h7 := rpa_rep h6 w.toNat
        rw [show (List.replicate w.toNat (u.map enc)).flatten = (List.replicate w.toNat u).flatten.map enc by
          rw [List.map_flatten, List.map_replicate]] at h7
        have h8 : RpA X.K H2 (un S S0) ((List.replicate w.toNat u).flatten.map enc) (List.replicate w.toNat xs).flatten := h7.mv (.less fun a z => .inl z)
        refine h8.mv fun a o e n => ?_
        have ne := ne_of_none e hp
        exact ⟨by rw [upd_ne ne]; exact e, fun z => z.elim n ne⟩
    · cases ed
/-! ### divmod -/
def iDivmod (x y : Int) : Option (T2 Int Int) := if 0 < y ∧ y < 1073741824 then some ⟨x / y, x % y⟩ else none
theorem pv_divmod {fa fb : Γ → Option Int} (hg : Gl X "divmod") (hm : X.mg "divmod" = none) (ha : PV X sl .b a fa) (hb : PV X sl .b b fb) (he : starEach [a, b] X.env = (false, eval a X.env) :: starEach [b] X.env := by rfl) (he2 : starEach [b] X.env = (false, eval b X.env) :: starEach [] X.env := by rfl) (hpl : (backTo pos (starEach [b] X.env)).any (·.1) = false := by rfl) :
    PV X sl .a (.Call (.Name "divmod" p) [a, b] [] pos) (fun s => (fa s).bind fun x => (fb s).bind fun y => iDivmod x y) :=
  pv_c2 (fun h1 h2 => pe_callB call_divmod hg hm (by decide +kernel) (pa_cons h1 (pa_cons h2 pa_nil he2) he) (he := he) (hpl := hpl)) (fun T H x y u w t Q hT r1 r2 e q => by
    obtain ⟨hz, rfl⟩ := if_some e
    refine ⟨u, w, by rw [rb_i r1, rb_i r2], hz, fun p hp => ?_⟩
    exact q _ _ (same_new hp) (rp_newT hT hp ⟨_, _, rfl, rfl, .one rfl⟩)) ha hb
/-! ### sorted pairs of numbers -/
def leP (p q : T2 Int Int) : Bool := decide (p.a < q.a) || (decide (p.a = q.a) && decide (p.b ≤ q.b))
def okP (p : T2 Int Int) : Bool := decide (0 ≤ p.a) && decide (p.a < 1000000000000000000) && decide (0 ≤ p.b) && decide (p.b < 1000000000000000000)
def srtP (x : List (T2 Int Int)) : Option (List (T2 Int Int)) := if x.length < 64 ∧ x.all okP = true then some (x.mergeSort leP) else none
theorem rpa_perm {K : PySem.W.Frag} {H : Hp} {T : Ad} {xs ys : List V} (p : ys.Perm xs) : ∀ {ds : List PyData}, RpA K H T ds xs → ∃ es, es.Perm ds ∧ RpA K H T es ys := by
  induction p with
  | nil => intro ds h; exact ⟨ds, .refl _, h⟩
  | cons x _ ih =>
    intro ds h
    cases ds with
    | nil => have e : _ :: _ = [] := h; cases e
    | cons d ds =>
      obtain ⟨v, vs, e, h1, h2⟩ := h
      cases e
      obtain ⟨es, p1, p2⟩ := ih h2
      exact ⟨d :: es, p1.cons d, _, _, rfl, h1, p2⟩
  | swap x y l =>
    intro ds h
    cases ds with
    | nil => have e : _ :: _ = [] := h; cases e
    | cons d ds =>
      obtain ⟨v, vs, e, h1, h2⟩ := h
      cases e
      cases ds with
      | nil => have e : _ :: _ = [] := h2; cases e
      | cons d2 ds =>
        obtain ⟨v2, vs2, e2, h3, h4⟩ := h2
        cases e2
        exact ⟨d2 :: d :: ds, .swap .., _, _, rfl, h3, _, _, rfl, h1, h4⟩
  | trans p1 p2 ih1 ih2 =>
    intro ds h
    obtain ⟨es, q1, q2⟩ := ih2 h
    obtain ⟨es2, q3, q4⟩ := ih1 q2
    exact ⟨es2, q3.trans q1, q4⟩
theorem perm_map {α β : Type} {f : α → β} {es : List β} {u : List α} (p : es.Perm (u.map f)) : ∃ t' : List α, es = t'.map f ∧ t'.Perm u := by
  generalize hm : u.map f = m at p
  induction p generalizing u with
  | nil =>
    have : u = [] := by cases u with | nil => rfl | cons => cases hm
    subst this
    exact ⟨[], rfl, .refl _⟩
  | cons x _ ih =>
    cases u with
    | nil => cases hm
    | cons a u =>
      cases hm
      obtain ⟨t', e, p'⟩ := ih rfl
      exact ⟨a :: t', by rw [List.map_cons, ← e], p'.cons a⟩
  | swap x y l =>
    cases u with
    | nil => cases hm
    | cons a u =>
      cases u with
      | nil => cases hm
      | cons b u =>
        cases hm
        exact ⟨b :: a :: u, rfl, .swap ..⟩
  | trans p1 p2 ih1 ih2 =>
    obtain ⟨t', e, q⟩ := ih2 hm
    obtain ⟨t2, e2, q2⟩ := ih1 e.symm
    exact ⟨t2, e2, q2.trans q⟩
theorem leP_code {p q : T2 Int Int} (hp : okP p = true) (hq : okP q = true) : leP p q = true ↔ TS.code 1000000000000000000 [p.a, p.b] ≤ TS.code 1000000000000000000 [q.a, q.b] := by
  unfold okP at hp hq
  simp only [Bool.and_eq_true, decide_eq_true_eq] at hp hq
  unfold leP
  simp only [Bool.or_eq_true, Bool.and_eq_true, decide_eq_true_eq]
  show _ ↔ p.a * 1000000000000000000 ^ 1 + (p.b * 1000000000000000000 ^ 0 + 0) ≤ q.a * 1000000000000000000 ^ 1 + (q.b * 1000000000000000000 ^ 0 + 0)
  rw [Int.pow_succ, Int.pow_zero]
  omega
theorem T2.ext' {p q : T2 Int Int} (h1 : p.a = q.a) (h2 : p.b = q.b) : p = q := by cases p; cases q; cases h1; cases h2; rfl
theorem srtP_uniq {xs ys : List (T2 Int Int)} (hp : ys.Perm xs) (hs : ys.Pairwise (fun a b => leP a b = true)) : ys = xs.mergeSort leP := by
  have p2 : (xs.mergeSort leP).Perm xs := List.mergeSort_perm _ _
  have s2 : (xs.mergeSort leP).Pairwise (fun a b => leP a b = true) := List.pairwise_mergeSort (by
    intro a b c h1 h2
    unfold leP at *
    simp only [Bool.or_eq_true, Bool.and_eq_true, decide_eq_true_eq] at *
    omega) (by
    intro a b
    unfold leP
    simp only [Bool.or_eq_true, Bool.and_eq_true, decide_eq_true_eq]
    omega) xs
  exact (hp.trans p2.symm).eq_of_pairwise (fun a b _ _ h1 h2 => by
    unfold leP at h1 h2
    simp only [Bool.or_eq_true, Bool.and_eq_true, decide_eq_true_eq] at h1 h2
    exact T2.ext' (by omega) (by omega)) hs s2
theorem tupI_of {K : PySem.W.Frag} {H : Hp} {T : Ad} {t : T2 Int Int} {v : V} (h : Rp K H T (enc t) v) : TupI K H v [t.a, t.b] := by
  obtain ⟨a, xs, rfl, h1, h2⟩ := h
  obtain ⟨v, vs, rfl, h3, h4⟩ := h2
  obtain ⟨v2, vs2, rfl, h5, h6⟩ := h4
  have e6 : vs2 = [] := h6
  subst e6
  have e3 : v = .int t.a := h3
  have e5 : v2 = .int t.b := h5
  subst e3 e5
  exact ⟨a, rfl, h1.sq⟩
theorem pairw_rp {K : PySem.W.Frag} {H : Hp} {T : Ad} : ∀ {t : List (T2 Int Int)} {vs : List V}, RpA K H T (t.map enc) vs → (∀ x ∈ t, okP x = true) →
    vs.Pairwise (fun x y => ∀ n m, TupI K H x n → TupI K H y m → TS.code 1000000000000000000 n ≤ TS.code 1000000000000000000 m) → t.Pairwise (fun a b => leP a b = true)
  | [], vs, h, ho, hp => .nil
  | a :: t, vs, h, ho, hp => by
    obtain ⟨v, ws, rfl, h1, h2⟩ := h
    rw [List.pairwise_cons] at hp
    refine .cons (fun b hb => ?_) (pairw_rp h2 (fun x hx => ho x (List.mem_cons_of_mem _ hx)) hp.2)
    obtain ⟨i, hi⟩ := List.getElem?_of_mem hb
    obtain ⟨w, hw, rw'⟩ := map_get h2 hi
    exact (leP_code (ho a List.mem_cons_self) (ho b (List.mem_cons_of_mem _ hb))).mpr (hp.1 w (List.mem_of_getElem? hw) _ _ (tupI_of h1) (tupI_of rw'))
theorem pv_sortedP {fa : Γ → Option (List (T2 Int Int))} (hg : Gl X "sorted") (hm : X.mg "sorted" = none) (ha : PV X sl .b a fa) (he : starEach [a] X.env = (false, eval a X.env) :: starEach [] X.env := by rfl) :
    PV X sl .f (.Call (.Name "sorted" p) [a] [] pos) (fun s => (fa s).bind fun x => srtP x) :=
  pv_c1 (fun h => pe_callB (cr_sortT (d := 2) (B := 1000000000000000000) (by decide)) hg hm (by decide +kernel) (pa_cons h pa_nil he) (he := he)) (fun T H x u t Q hT r e q => by
    obtain ⟨⟨h64, hok⟩, rfl⟩ := if_some e
    have hok' : ∀ x ∈ u, okP x = true := List.all_eq_true.mp hok
    obtain ⟨p, xs, rfl, h1, h2⟩ := rb_l r
    refine ⟨p, xs, rfl, h1, by rw [map_len h2]; exact h64, fun v hv => ?_, fun ys l hp hs hl => ?_⟩
    · obtain ⟨i, hi⟩ := List.getElem?_of_mem hv
      have hlt : i < u.length := by
        have := (List.getElem?_eq_some_iff.mp hi).1
        rw [map_len h2] at this
        exact this
      obtain ⟨w, hw, rw'⟩ := map_get h2 (List.getElem?_eq_getElem hlt)
      rw [hi] at hw
      cases hw
      refine ⟨_, tupI_of rw', rfl, fun m hm => ?_⟩
      have := hok' _ (List.getElem_mem hlt)
      unfold okP at this
      simp only [Bool.and_eq_true, decide_eq_true_eq] at this
      simp only [List.mem_cons, List.not_mem_nil, or_false] at hm
      rcases hm with rfl | rfl
      · omega
      · omega
    · obtain ⟨es, p1, p2⟩ := rpa_perm hp h2
      obtain ⟨t', ht', p3⟩ : ∃ t' : List (T2 Int Int), es = t'.map enc ∧ t'.Perm u := by
        obtain ⟨t', h1, h2⟩ := perm_map p1
        exact ⟨t', h1, h2⟩
      subst ht'
      have := srtP_uniq p3 (pairw_rp p2 (fun x hx => hok' x (p3.mem_iff.mp hx)) hs)
      rw [this] at p2
      exact q _ _ (same_new hl) (fr_new hT hl p2)) ha
end
end PL

/-! PL20: lstrip, or of texts, truth of texts. -/
namespace PL
open PySem PySem.Spec L2 PyProof.Rows
open Enc (enc)
variable {Γ Γ' Γb ρ τ α β σ' ι : Type} {X : Cx} {sl : Γ → Sl} {slb : Γb → Sl} {e o a b c : Expr} {k : Kd} {pos p apos : Pos}
theorem drop_take_while {q : Nat → Bool} : ∀ l : List Nat, l.drop (l.takeWhile q).length = l.dropWhile q
  | [] => rfl
  | a :: l => by
    cases h : q a with
    | true => rw [List.takeWhile_cons_of_pos h, List.dropWhile_cons_of_pos h, List.length_cons, List.drop_succ_cons, drop_take_while l]
    | false => rw [List.takeWhile_cons_of_neg (by simp [h]), List.dropWhile_cons_of_neg (by simp [h])]; rfl
theorem lstrip_eq (x y : List Nat) : Txt.lstripChars ⟨x.toArray⟩ ⟨y.toArray⟩ = ⟨(x.dropWhile (y.toArray.contains)).toArray⟩ := by
  unfold Txt.lstripChars
  rw [W.stripBy_eq]
  unfold W.stripped
  simp only [if_true, if_false, Bool.false_eq_true]
  rw [← drop_take_while]
  show Builtin.Str.strSub _ _ _ = _
  unfold Builtin.Str.strSub
  simp [Str.length]
  exact List.take_of_length_le (by rw [List.length_drop]; omega)
def tLst (x y : Tx) : Option Tx := if x.cs.length ≤ sizeLine then some ⟨x.cs.dropWhile (fun c => decide (c ∈ y.cs))⟩ else none
theorem pv_lstripC {fo fe : Γ → Option Tx} (ho : PV X sl .b o fo) (he : PV X sl .b e fe) (hs : starEach [e] X.env = [(false, eval e X.env)] := by rfl) (hbase : attributeBase o "lstrip" X.env (eval o X.env) = eval o X.env := by rfl) (hline : (apos.endLine == pos.line) = true := by rfl) :
    PV X sl .a (.Call (.Attribute o "lstrip" apos) [e] [] pos) (fun s => (fo s).bind fun x => (fe s).bind fun y => tLst x y) :=
  PE.imp (pe_m1 PySem.F.slot_str_lstrip PySem.F.type_str_lstrip mt_lstripChars ho he hs hbase hline) fun σ H Q ⟨γ, S0, S, t, E, hf, q⟩ => by
    obtain ⟨u, w, h1, h2, h3⟩ := bind2 hf
    obtain ⟨hz, rfl⟩ := if_some h3
    refine ⟨γ, S0, S, u, E, h1, fun x H1 s1 r1 => ⟨⟨_, rb_t r1⟩, γ, S0, S, w, E.same s1, h2, fun y H2 s2 r2 => ?_⟩⟩
    refine ⟨_, _, rb_t r1, by rw [rb_t r2], by show Array.size _ ≤ _; simpa using hz, q _ H2 (s1.trans s2) ?_⟩
    show V.str _ = V.str _
    rw [lstrip_eq]
    have ef : w.cs.toArray.contains = fun c => decide (c ∈ w.cs) := by
      funext c
      rw [Bool.eq_iff_iff]
      simp
    rw [ef]
/-- x or y, of texts -/
def tOr (x : Tx) (y : Option Tx) : Option Tx := if x.cs.length ≤ sizeLine then (if x.cs = [] then y else some x) else none
theorem pv_orS {fa fb : Γ → Option Tx} (ha : PV X sl .a a fa) (hb : PV X sl .a b fb) : PV X sl .a (.BoolOp .Or [a, b] pos) (fun s => (fa s).bind fun x => tOr x (fb s)) :=
  PE.imp (pe_orT ha (pe_one hb)) fun σ H Q ⟨γ, S0, S, t, E, hf, q⟩ => by
    obtain ⟨u, h1, h2⟩ := bind1 hf
    obtain ⟨hz, h3⟩ : u.cs.length ≤ sizeLine ∧ (if u.cs = [] then fb γ else some u) = some t := by
      unfold tOr at h2
      by_cases c : u.cs.length ≤ sizeLine
      · rw [if_pos c] at h2; exact ⟨c, h2⟩
      · rw [if_neg c] at h2; cases h2
    refine ⟨γ, S0, S, u, E, h1, fun x H1 s1 r1 => ?_⟩
    have r2 : x = .str ⟨u.cs.toArray⟩ := r1
    subst r2
    have hlen : (⟨u.cs.toArray⟩ : Str).length = u.cs.length := by show Array.size _ = _; simp
    by_cases c : u.cs = []
    · rw [if_pos c] at h3
      refine ⟨false, ⟨by rw [hlen]; exact hz, by rw [hlen, c]; rfl⟩, ?_⟩
      show if (false = true) then _ else _
      rw [if_neg (by decide)]
      exact ⟨γ, S0, S, t, E.same s1, h3, fun v H2 s2 r => q v H2 (s1.trans s2) r⟩
    · rw [if_neg c] at h3
      have h4 : u = t := Option.some.inj h3
      have hpos : 0 < u.cs.length := List.length_pos_iff.mpr c
      refine ⟨true, ⟨by rw [hlen]; exact hz, by rw [hlen]; have : ((u.cs.length : Int) != 0) = true := (bne_iff_ne).mpr (by omega); exact this.symm⟩, ?_⟩
      show if (true = true) then _ else _
      rw [if_pos rfl]
      exact q _ H1 s1 (by rw [← h4]; rfl)
end PL


set_option Elab.async false
set_option linter.all false
set_option maxRecDepth 100000
set_option maxHeartbeats 4000000
namespace LW
open PySem PySem.Spec L2 PL
open Enc (enc)
def topS (i : Nat) : Stmt := PySem.Challenge.pw_reckonedbyhand_k55_whole_zeros_of_produc.main.body.getD i (.Pass ⟨0, 0, 0, 0⟩)
def c_DIGITS_l : List Nat := [48, 49, 50, 51, 52, 53, 54, 55, 56, 57, 97, 98, 99, 100, 101, 102, 103, 104, 105, 106, 107, 108, 109, 110, 111, 112, 113, 114, 115, 116, 117, 118, 119, 120, 121, 122]
/-- what the top has left -/
structure Top (K : PySem.W.Frag) (mg : Str → Option Value) where
  a__law_draws : Addr
  d__law_draws : FuncData
  F__law_draws : Fun K "_law_draws" "_law_draws" (topS 25) a__law_draws d__law_draws
  b__law_draws : Binds K d__law_draws ["script"] []
  m__law_draws : mg "_law_draws" = some (.ref a__law_draws)
  a__law_mix : Addr
  d__law_mix : FuncData
  F__law_mix : Fun K "_law_mix" "_law_mix" (topS 26) a__law_mix d__law_mix
  b__law_mix : Binds K d__law_mix ["draws", "k", "many"] []
  m__law_mix : mg "_law_mix" = some (.ref a__law_mix)
  a_check_base : Addr
  d_check_base : FuncData
  F_check_base : Fun K "check_base" "check_base" (topS 8) a_check_base d_check_base
  b_check_base : Binds K d_check_base ["base"] []
  m_check_base : mg "check_base" = some (.ref a_check_base)
  a_check_numbers : Addr
  d_check_numbers : FuncData
  F_check_numbers : Fun K "check_numbers" "check_numbers" (topS 11) a_check_numbers d_check_numbers
  b_check_numbers : Binds K d_check_numbers ["base", "told"] []
  m_check_numbers : mg "check_numbers" = some (.ref a_check_numbers)
  a_power_in : Addr
  d_power_in : FuncData
  F_power_in : Fun K "power_in" "power_in" (topS 18) a_power_in d_power_in
  b_power_in : Binds K d_power_in ["number", "prime"] []
  m_power_in : mg "power_in" = some (.ref a_power_in)
  a_primes_of : Addr
  d_primes_of : FuncData
  F_primes_of : Fun K "primes_of" "primes_of" (topS 15) a_primes_of d_primes_of
  b_primes_of : Binds K d_primes_of ["base"] []
  m_primes_of : mg "primes_of" = some (.ref a_primes_of)
  a_product_zeros : Addr
  d_product_zeros : FuncData
  F_product_zeros : Fun K "product_zeros" "product_zeros" (topS 19) a_product_zeros d_product_zeros
  b_product_zeros : Binds K d_product_zeros ["number", "base"] []
  m_product_zeros : mg "product_zeros" = some (.ref a_product_zeros)
  a_least_with : Addr
  d_least_with : FuncData
  F_least_with : Fun K "least_with" "least_with" (topS 21) a_least_with d_least_with
  b_least_with : Binds K d_least_with ["many", "base"] []
  m_least_with : mg "least_with" = some (.ref a_least_with)
  a_products_with : Addr
  d_products_with : FuncData
  F_products_with : Fun K "products_with" "products_with" (topS 22) a_products_with d_products_with
  b_products_with : Binds K d_products_with ["many", "base"] []
  m_products_with : mg "products_with" = some (.ref a_products_with)
  a__law_signs : Addr
  d__law_signs : FuncData
  F__law_signs : Fun K "_law_signs" "_law_signs" (topS 27) a__law_signs d__law_signs
  b__law_signs : Binds K d__law_signs [] []
  m__law_signs : mg "_law_signs" = some (.ref a__law_signs)
  a__law_write : Addr
  d__law_write : FuncData
  F__law_write : Fun K "_law_write" "_law_write" (topS 28) a__law_write d__law_write
  b__law_write : Binds K d__law_write ["number", "base"] []
  m__law_write : mg "_law_write" = some (.ref a__law_write)
  a__law_zeros : Addr
  d__law_zeros : FuncData
  F__law_zeros : Fun K "_law_zeros" "_law_zeros" (topS 29) a__law_zeros d__law_zeros
  b__law_zeros : Binds K d__law_zeros ["number", "base"] []
  m__law_zeros : mg "_law_zeros" = some (.ref a__law_zeros)
  a_zeros_of_product : Addr
  d_zeros_of_product : FuncData
  F_zeros_of_product : Fun K "zeros_of_product" "zeros_of_product" (topS 20) a_zeros_of_product d_zeros_of_product
  b_zeros_of_product : Binds K d_zeros_of_product ["number", "base"] []
  m_zeros_of_product : mg "zeros_of_product" = some (.ref a_zeros_of_product)
  a_last_of_product : Addr
  d_last_of_product : FuncData
  F_last_of_product : Fun K "last_of_product" "last_of_product" (topS 23) a_last_of_product d_last_of_product
  b_last_of_product : Binds K d_last_of_product ["number", "base"] []
  m_last_of_product : mg "last_of_product" = some (.ref a_last_of_product)
  a__law_primes : Addr
  d__law_primes : FuncData
  F__law_primes : Fun K "_law_primes" "_law_primes" (topS 30) a__law_primes d__law_primes
  b__law_primes : Binds K d__law_primes ["base"] []
  m__law_primes : mg "_law_primes" = some (.ref a__law_primes)
  a__law_due : Addr
  d__law_due : FuncData
  F__law_due : Fun K "_law_due" "_law_due" (topS 31) a__law_due d__law_due
  b__law_due : Binds K d__law_due ["number", "base"] []
  m__law_due : mg "_law_due" = some (.ref a__law_due)
  a_zeros_of : Addr
  d_zeros_of : FuncData
  F_zeros_of : Fun K "zeros_of" "zeros_of" (topS 16) a_zeros_of d_zeros_of
  b_zeros_of : Binds K d_zeros_of ["number", "base"] []
  m_zeros_of : mg "zeros_of" = some (.ref a_zeros_of)
  a_zeros : Addr
  d_zeros : FuncData
  F_zeros : Fun K "zeros" "zeros" (topS 17) a_zeros d_zeros
  b_zeros : Binds K d_zeros ["number", "base"] []
  m_zeros : mg "zeros" = some (.ref a_zeros)
  a_law : Addr
  d_law : FuncData
  F_law : Fun K "law" "law" (topS 32) a_law d_law
  b_law : Binds K d_law ["script"] []
  m_law : mg "law" = some (.ref a_law)
  z_abs : mg "abs" = none
  z_int : mg "int" = none
  z_len : mg "len" = none
  z_min : mg "min" = none
  z_range : mg "range" = none
  z_repr : mg "repr" = none
  c_DIGITS : ∃ t : Tok, mg "DIGITS" = some (.str "0123456789abcdefghijklmnopqrstuvwxyz" t)
  c_LEAST_BASE : ∃ t : Tok, mg "LEAST_BASE" = some (.int 2 t)
  c_MOST_BASE : ∃ t : Tok, mg "MOST_BASE" = some (.int 36 t)
  c_MOST_NUMBER : ∃ t : Tok, mg "MOST_NUMBER" = some (.int 1000000 t)
  c_MOST_PRODUCT : ∃ t : Tok, mg "MOST_PRODUCT" = some (.int 300 t)
  c_MOST_ZEROS : ∃ t : Tok, mg "MOST_ZEROS" = some (.int 10000 t)
variable {P : Program} {w : World} {K : PySem.W.Frag} {mg : Str → Option Value} {base : Heap}
/-! ## _law_draws -/
structure S__law_draws where
  mk ::
  v_script : (List Int)
  v_draws : (List Int)
  v_k : Int
  v_rest : Int
  v_turn : Int
  v_mixed : Int
@[reducible] def sl__law_draws_0 (s : S__law_draws) : Sl := (fun s : S__law_draws => ([some (Mo.b, enc s.v_script), some (Mo.o, enc s.v_draws), some (Mo.a, enc s.v_k), some (Mo.a, enc s.v_rest), some (Mo.a, enc s.v_turn), none] : Sl)) s
@[reducible] def sl__law_draws_1 (s : S__law_draws) : Sl := (fun s : S__law_draws => ([some (Mo.b, enc s.v_script), some (Mo.o, enc s.v_draws), some (Mo.a, enc s.v_k), some (Mo.a, enc s.v_rest), none, none] : Sl)) s
@[reducible] def sl__law_draws_2 (s : S__law_draws) : Sl := (fun s : S__law_draws => ([some (Mo.b, enc s.v_script), some (Mo.o, enc s.v_draws), some (Mo.a, enc s.v_k), some (Mo.a, enc s.v_rest), none, some (Mo.a, enc s.v_mixed)] : Sl)) s
@[reducible] def sl__law_draws_3 (s : S__law_draws) : Sl := (fun s : S__law_draws => ([some (Mo.b, enc s.v_script), some (Mo.o, enc s.v_draws), some (Mo.a, enc s.v_k), none, none, none] : Sl)) s
@[reducible] def sl__law_draws_4 (s : S__law_draws) : Sl := (fun s : S__law_draws => ([some (Mo.b, enc s.v_script), some (Mo.o, enc s.v_draws), none, none, none, none] : Sl)) s
@[reducible] def sl__law_draws_5 (s : S__law_draws) : Sl := (fun s : S__law_draws => ([some (Mo.b, enc s.v_script), none, none, none, none, none] : Sl)) s
def lp__law_draws_0 (s : S__law_draws) : Option (Out S__law_draws (List Int)) :=
  seqO (((some s.v_rest).bind fun x297 => (some (0 : Int)).bind fun x298 => some (decide (x297 > x298))).bind fun x323 => if x323 = true then
  (seqO ((((some s.v_rest).bind fun x309 => some x309).bind fun x310 => (some (65536 : Int)).bind fun x311 => iMod x310 x311).bind fun x312 => (push s.v_draws x312).bind fun x313 => some (Out.nx (ρ := (List Int)) { s with v_draws := x313 })) fun s =>
  seqO (((some s.v_rest).bind fun x320 => (some (65536 : Int)).bind fun x321 => iDiv x320 x321).bind fun x322 => some (Out.nx (ρ := (List Int)) { s with v_rest := x322 })) fun s =>
  some (Out.nx (ρ := (List Int)) s))
  else some (Out.nx (ρ := (List Int)) s)) fun s =>
  some (Out.nx (ρ := (List Int)) { s with v_turn := 0 })
def lp__law_draws_1 (s : S__law_draws) : Option (Out S__law_draws (List Int)) :=
  seqO ((((some s.v_script).bind fun x198 => (some s.v_k).bind fun x199 => atI x198 x199).bind fun x200 => some (x200.natAbs : Int)).bind fun x201 => some (Out.nx (ρ := (List Int)) { s with v_rest := x201 })) fun s =>
  seqO (((some s.v_rest).bind fun x259 => ((some (10 : Int)).bind fun x257 => (some (18 : Int)).bind fun x258 => iPow x257 x258).bind fun x260 => some (decide (x259 ≥ x260))).bind fun x433 => if x433 = true then
  (seqO (((some (60 : Int)).bind fun x284 => rng1 x284).bind fun x324 => forO (fun (s : S__law_draws) (t : Int) => { s with v_turn := t }) lp__law_draws_0 x324 s) fun s =>
  some (Out.nx (ρ := (List Int)) s))
  else seqO ((((((some s.v_rest).bind fun x349 => (some (48271 : Int)).bind fun x350 => iMul x349 x350).bind fun x355 => (((some s.v_k).bind fun x351 => (some (1 : Int)).bind fun x352 => some (x351 + x352)).bind fun x353 => (some (69621 : Int)).bind fun x354 => iMul x353 x354).bind fun x356 => some (x355 + x356)).bind fun x357 => some x357).bind fun x358 => (some (2147483647 : Int)).bind fun x359 => iMod x358 x359).bind fun x360 => some (Out.nx (ρ := (List Int)) { s with v_mixed := x360 })) fun s =>
  seqO (((((((some s.v_mixed).bind fun x385 => (some (16807 : Int)).bind fun x386 => iMul x385 x386).bind fun x389 => ((some (11 : Int)).bind fun x387 => (some s.v_k).bind fun x388 => iMul x387 x388).bind fun x390 => some (x389 + x390)).bind fun x391 => (some (5 : Int)).bind fun x392 => some (x391 + x392)).bind fun x393 => some x393).bind fun x394 => (some (2147483629 : Int)).bind fun x395 => iMod x394 x395).bind fun x396 => some (Out.nx (ρ := (List Int)) { s with v_mixed := x396 })) fun s =>
  seqO ((((some s.v_mixed).bind fun x407 => some x407).bind fun x408 => (some (65536 : Int)).bind fun x409 => iMod x408 x409).bind fun x410 => (push s.v_draws x410).bind fun x411 => some (Out.nx (ρ := (List Int)) { s with v_draws := x411 })) fun s =>
  seqO (((((some s.v_mixed).bind fun x426 => (some (65536 : Int)).bind fun x427 => iDiv x426 x427).bind fun x428 => some x428).bind fun x429 => (some (32768 : Int)).bind fun x430 => iMod x429 x430).bind fun x431 => (push s.v_draws x431).bind fun x432 => some (Out.nx (ρ := (List Int)) { s with v_draws := x432 })) fun s =>
  some (Out.nx (ρ := (List Int)) { s with v_mixed := 0 })) fun s =>
  some (Out.nx (ρ := (List Int)) { s with v_k := 0, v_rest := 0 })
def fb__law_draws (s : S__law_draws) : Option (Out S__law_draws (List Int)) :=
  seqO ((some ([] : List Int)).bind fun x63 => some (Out.nx (ρ := (List Int)) { s with v_draws := x63 })) fun s =>
  seqO ((((some (63 : Int)).bind fun x187 => ((some s.v_script).bind fun x186 => some (x186.length : Int)).bind fun x188 => some (min x187 x188)).bind fun x189 => rng1 x189).bind fun x434 => forO (fun (s : S__law_draws) (t : Int) => { s with v_k := t }) lp__law_draws_1 x434 s) fun s =>
  seqO (some (Out.rt s.v_draws)) fun s =>
  some (Out.nx (ρ := (List Int)) s)
def F__law_draws (v_script : (List Int)) : Option (List Int) := outF none (fb__law_draws (⟨v_script, [], 0, 0, 0, 0⟩ : S__law_draws))
@[reducible] def sa__law_draws (a : (List Int) × Unit) : Sl := [some (Mo.b, enc a.1), none, none, none, none, none]
@[reducible] def in__law_draws (a : (List Int) × Unit) : S__law_draws := ⟨a.1, [], 0, 0, 0, 0⟩
abbrev N__law_draws : List Str := ["script", "draws", "k", "rest", "turn", "mixed"]
abbrev s__law_draws : Stmt := topS 25
theorem sc__law_draws : FnScope N__law_draws ["script"] (defScope s__law_draws) := ⟨rfl, rfl, rfl, by decide +kernel, rfl, by decide +kernel, by decide +kernel⟩
theorem ok__law_draws (T : Top K mg) : FnOk P w K mg base CX0 1 T.a__law_draws T.d__law_draws ["script"] (spF K N__law_draws 1 sa__law_draws .f (fun a => F__law_draws a.1)) := by
  have nd := sc__law_draws.nd
  refine fn_v (slE := sl__law_draws_5) (fb := fun a => fb__law_draws (in__law_draws a)) none T.F__law_draws sc__law_draws rfl (fun _ h => nomatch h) (.inr ⟨rfl, rfl⟩) (fun _ => rfl) fun cdv A outer s H E hr => ?_
  exact (bv_wk (sl'' := sl__law_draws_5) (h := in__law_draws) (fun _ => Wk.refl _)
  (bv_cons (sl'' := sl__law_draws_4) (sv_own (i := 1) (fun (s : S__law_draws) t => { s with v_draws := t }) (fun _ _ => rfl) nd (pv_lst (pal_nil (τ := Int))))
  (bv_cons (sl'' := sl__law_draws_4) (sv_for (sl := sl__law_draws_4) PassesOwn.never (piv_range1 (by rfl) T.z_range (PV.ab (pv_min2 (by rfl) T.z_min (PV.ab pv_int) (PV.ab (pv_len (by rfl) T.z_len (pv_varb (i := 0) (fun s : S__law_draws => s.v_script) (fun _ => rfl))))))) (gv_name (i := 2) (slb := sl__law_draws_3) (set := (fun (s : S__law_draws) (t : Int) => { s with v_k := t })) (fun _ _ => rfl) nd)
  (bv_cons (sl'' := sl__law_draws_1) (sv_set (i := 3) (fun (s : S__law_draws) t => { s with v_rest := t }) (fun _ _ => rfl) nd (pv_abs (by rfl) T.z_abs (PV.ab (pv_ix (pv_varb (i := 0) (fun s : S__law_draws => s.v_script) (fun _ => rfl)) (PV.ab (pv_var (i := 2) (fun s : S__law_draws => s.v_k) (fun _ => rfl)))))))
  (bv_cons (sl'' := sl__law_draws_1) (sv_if (pb_cmp c_ge (PV.ab (pv_var (i := 3) (fun s : S__law_draws => s.v_rest) (fun _ => rfl))) (PV.ab (pv_pow (PV.ab pv_int) (PV.ab pv_int))))
  (bv_cons (sl'' := sl__law_draws_1) (sv_for (sl := sl__law_draws_1) PassesOwn.never (piv_range1 (by rfl) T.z_range (PV.ab pv_int)) (gv_name (i := 4) (slb := sl__law_draws_0) (set := (fun (s : S__law_draws) (t : Int) => { s with v_turn := t })) (fun _ _ => rfl) nd)
  (bv_cons (sl'' := sl__law_draws_0) (sv_if (pb_cmp c_gt (PV.ab (pv_var (i := 3) (fun s : S__law_draws => s.v_rest) (fun _ => rfl))) (PV.ab pv_int))
  (bv_cons (sl'' := sl__law_draws_0) (sv_app (i := 1) (fun s : S__law_draws => s.v_draws) (fun s t => { s with v_draws := t }) (fun _ => rfl) (fun _ _ => rfl) (pv_mod (PV.ab (pv_int1 (by rfl) T.z_int (PV.ab (pv_var (i := 3) (fun s : S__law_draws => s.v_rest) (fun _ => rfl))))) (PV.ab pv_int)))
  (bv_cons (sl'' := sl__law_draws_0) (sv_set (i := 3) (fun (s : S__law_draws) t => { s with v_rest := t }) (fun _ _ => rfl) nd (pv_div (PV.ab (pv_var (i := 3) (fun s : S__law_draws => s.v_rest) (fun _ => rfl))) (PV.ab pv_int)))
  (bv_nil (h := fun (s : S__law_draws) => (s : S__law_draws)) (fun _ => (.s (.s (.s (.s (.s (.s .nil))))))))))
  (bv_nil (h := fun (s : S__law_draws) => (s : S__law_draws)) (fun _ => (.s (.s (.s (.s (.s (.s .nil)))))))))
  (bv_nil (h := fun (s : S__law_draws) => ({ s with v_turn := 0 } : S__law_draws)) (fun _ => (.s (.s (.s (.s (.d (.s .nil))))))))))
  (bv_nil (h := fun (s : S__law_draws) => (s : S__law_draws)) (fun _ => (.s (.s (.s (.s (.s (.s .nil)))))))))
  (bv_cons (sl'' := sl__law_draws_2) (sv_set (i := 5) (fun (s : S__law_draws) t => { s with v_mixed := t }) (fun _ _ => rfl) nd (pv_mod (PV.ab (pv_int1 (by rfl) T.z_int (PV.ab (pv_add (PV.ab (pv_mul (PV.ab (pv_var (i := 3) (fun s : S__law_draws => s.v_rest) (fun _ => rfl))) (PV.ab pv_int))) (PV.ab (pv_mul (PV.ab (pv_add (PV.ab (pv_var (i := 2) (fun s : S__law_draws => s.v_k) (fun _ => rfl))) (PV.ab pv_int))) (PV.ab pv_int))))))) (PV.ab pv_int)))
  (bv_cons (sl'' := sl__law_draws_2) (sv_set (i := 5) (fun (s : S__law_draws) t => { s with v_mixed := t }) (fun _ _ => rfl) nd (pv_mod (PV.ab (pv_int1 (by rfl) T.z_int (PV.ab (pv_add (PV.ab (pv_add (PV.ab (pv_mul (PV.ab (pv_var (i := 5) (fun s : S__law_draws => s.v_mixed) (fun _ => rfl))) (PV.ab pv_int))) (PV.ab (pv_mul (PV.ab pv_int) (PV.ab (pv_var (i := 2) (fun s : S__law_draws => s.v_k) (fun _ => rfl))))))) (PV.ab pv_int))))) (PV.ab pv_int)))
  (bv_cons (sl'' := sl__law_draws_2) (sv_app (i := 1) (fun s : S__law_draws => s.v_draws) (fun s t => { s with v_draws := t }) (fun _ => rfl) (fun _ _ => rfl) (pv_mod (PV.ab (pv_int1 (by rfl) T.z_int (PV.ab (pv_var (i := 5) (fun s : S__law_draws => s.v_mixed) (fun _ => rfl))))) (PV.ab pv_int)))
  (bv_cons (sl'' := sl__law_draws_2) (sv_app (i := 1) (fun s : S__law_draws => s.v_draws) (fun s t => { s with v_draws := t }) (fun _ => rfl) (fun _ _ => rfl) (pv_mod (PV.ab (pv_int1 (by rfl) T.z_int (PV.ab (pv_div (PV.ab (pv_var (i := 5) (fun s : S__law_draws => s.v_mixed) (fun _ => rfl))) (PV.ab pv_int))))) (PV.ab pv_int)))
  (bv_nil (h := fun (s : S__law_draws) => ({ s with v_mixed := 0 } : S__law_draws)) (fun _ => (.s (.s (.s (.s (.s (.d .nil)))))))))))))
  (bv_nil (h := fun (s : S__law_draws) => ({ s with v_k := 0, v_rest := 0 } : S__law_draws)) (fun _ => (.s (.s (.d (.d (.s (.s .nil)))))))))))
  (bv_cons (sl'' := sl__law_draws_5) (sv_reto (i := 1) (fun s : S__law_draws => s.v_draws) (fun _ => rfl))
  (bv_nil (sl := sl__law_draws_5) (h := fun s => s) (fun _ => Wk.refl _))))))
/-! ## _law_mix -/
structure S__law_mix where
  mk ::
  v_draws : (List Int)
  v_k : Int
  v_many : Int
  v_cell : Int
@[reducible] def sl__law_mix_0 (s : S__law_mix) : Sl := (fun s : S__law_mix => ([some (Mo.b, enc s.v_draws), some (Mo.a, enc s.v_k), some (Mo.a, enc s.v_many), some (Mo.a, enc s.v_cell)] : Sl)) s
@[reducible] def sl__law_mix_1 (s : S__law_mix) : Sl := (fun s : S__law_mix => ([some (Mo.b, enc s.v_draws), some (Mo.a, enc s.v_k), some (Mo.a, enc s.v_many), none] : Sl)) s
def fb__law_mix (s : S__law_mix) : Option (Out S__law_mix Int) :=
  seqO ((some (0 : Int)).bind fun x34 => some (Out.nx (ρ := Int) { s with v_cell := x34 })) fun s =>
  seqO ((((some s.v_draws).bind fun x48 => some (x48.length : Int)).bind fun x49 => (some (0 : Int)).bind fun x50 => some (decide (x49 > x50))).bind fun x72 => if x72 = true then
  (seqO (((some s.v_draws).bind fun x69 => (((some s.v_k).bind fun x65 => some x65).bind fun x67 => ((some s.v_draws).bind fun x66 => some (x66.length : Int)).bind fun x68 => iMod x67 x68).bind fun x70 => atI x69 x70).bind fun x71 => some (Out.nx (ρ := Int) { s with v_cell := x71 })) fun s =>
  some (Out.nx (ρ := Int) s))
  else some (Out.nx (ρ := Int) s)) fun s =>
  seqO (((some s.v_k).bind fun x84 => ((some s.v_draws).bind fun x83 => some (x83.length : Int)).bind fun x85 => some (decide (x84 < x85))).bind fun x98 => if x98 = true then
  (seqO ((((some s.v_cell).bind fun x94 => some x94).bind fun x95 => (some s.v_many).bind fun x96 => iMod x95 x96).bind fun x97 => some (Out.rt x97)) fun s =>
  some (Out.nx (ρ := Int) s))
  else some (Out.nx (ρ := Int) s)) fun s =>
  seqO ((((((((some s.v_cell).bind fun x125 => (some (7919 : Int)).bind fun x126 => iMul x125 x126).bind fun x129 => ((some s.v_k).bind fun x127 => (some (104729 : Int)).bind fun x128 => iMul x127 x128).bind fun x130 => some (x129 + x130)).bind fun x131 => some x131).bind fun x132 => (some (3 : Int)).bind fun x133 => iDiv x132 x133).bind fun x134 => some x134).bind fun x135 => (some s.v_many).bind fun x136 => iMod x135 x136).bind fun x137 => some (Out.rt x137)) fun s =>
  some (Out.nx (ρ := Int) s)
def F__law_mix (v_draws : (List Int)) (v_k : Int) (v_many : Int) : Option Int := outF none (fb__law_mix (⟨v_draws, v_k, v_many, 0⟩ : S__law_mix))
@[reducible] def sa__law_mix (a : (List Int) × Int × Int × Unit) : Sl := [some (Mo.b, enc a.1), some (Mo.a, enc a.2.1), some (Mo.a, enc a.2.2.1), none]
@[reducible] def in__law_mix (a : (List Int) × Int × Int × Unit) : S__law_mix := ⟨a.1, a.2.1, a.2.2.1, 0⟩
abbrev N__law_mix : List Str := ["draws", "k", "many", "cell"]
abbrev s__law_mix : Stmt := topS 26
theorem sc__law_mix : FnScope N__law_mix ["draws", "k", "many"] (defScope s__law_mix) := ⟨rfl, rfl, rfl, by decide +kernel, rfl, by decide +kernel, by decide +kernel⟩
theorem ok__law_mix (T : Top K mg) : FnOk P w K mg base CX0 1 T.a__law_mix T.d__law_mix ["draws", "k", "many"] (spF K N__law_mix 3 sa__law_mix .a (fun a => F__law_mix a.1 a.2.1 a.2.2.1)) := by
  have nd := sc__law_mix.nd
  refine fn_v (slE := sl__law_mix_1) (fb := fun a => fb__law_mix (in__law_mix a)) none T.F__law_mix sc__law_mix rfl (fun _ h => nomatch h) (.inl rfl) (fun _ => rfl) fun cdv A outer s H E hr => ?_
  exact (bv_wk (sl'' := sl__law_mix_1) (h := in__law_mix) (fun _ => Wk.refl _)
  (bv_cons (sl'' := sl__law_mix_0) (sv_set (i := 3) (fun (s : S__law_mix) t => { s with v_cell := t }) (fun _ _ => rfl) nd pv_int)
  (bv_cons (sl'' := sl__law_mix_0) (sv_if (pb_cmp c_gt (PV.ab (pv_len (by rfl) T.z_len (pv_varb (i := 0) (fun s : S__law_mix => s.v_draws) (fun _ => rfl)))) (PV.ab pv_int))
  (bv_cons (sl'' := sl__law_mix_0) (sv_set (i := 3) (fun (s : S__law_mix) t => { s with v_cell := t }) (fun _ _ => rfl) nd (pv_ix (pv_varb (i := 0) (fun s : S__law_mix => s.v_draws) (fun _ => rfl)) (PV.ab (pv_mod (PV.ab (pv_int1 (by rfl) T.z_int (PV.ab (pv_var (i := 1) (fun s : S__law_mix => s.v_k) (fun _ => rfl))))) (PV.ab (pv_len (by rfl) T.z_len (pv_varb (i := 0) (fun s : S__law_mix => s.v_draws) (fun _ => rfl))))))))
  (bv_nil (h := fun (s : S__law_mix) => (s : S__law_mix)) (fun _ => (.s (.s (.s (.s .nil)))))))
  (bv_nil (h := fun (s : S__law_mix) => (s : S__law_mix)) (fun _ => (.s (.s (.s (.s .nil)))))))
  (bv_cons (sl'' := sl__law_mix_0) (sv_if (pb_cmp c_lt (PV.ab (pv_var (i := 1) (fun s : S__law_mix => s.v_k) (fun _ => rfl))) (PV.ab (pv_len (by rfl) T.z_len (pv_varb (i := 0) (fun s : S__law_mix => s.v_draws) (fun _ => rfl)))))
  (bv_cons (sl'' := sl__law_mix_0) (sv_ret (pv_mod (PV.ab (pv_int1 (by rfl) T.z_int (PV.ab (pv_var (i := 3) (fun s : S__law_mix => s.v_cell) (fun _ => rfl))))) (PV.ab (pv_var (i := 2) (fun s : S__law_mix => s.v_many) (fun _ => rfl)))))
  (bv_nil (sl := sl__law_mix_0) (h := fun s => s) (fun _ => Wk.refl _)))
  (bv_nil (h := fun (s : S__law_mix) => (s : S__law_mix)) (fun _ => (.s (.s (.s (.s .nil)))))))
  (bv_cons (sl'' := sl__law_mix_1) (sv_ret (pv_mod (PV.ab (pv_int1 (by rfl) T.z_int (PV.ab (pv_div (PV.ab (pv_int1 (by rfl) T.z_int (PV.ab (pv_add (PV.ab (pv_mul (PV.ab (pv_var (i := 3) (fun s : S__law_mix => s.v_cell) (fun _ => rfl))) (PV.ab pv_int))) (PV.ab (pv_mul (PV.ab (pv_var (i := 1) (fun s : S__law_mix => s.v_k) (fun _ => rfl))) (PV.ab pv_int))))))) (PV.ab pv_int))))) (PV.ab (pv_var (i := 2) (fun s : S__law_mix => s.v_many) (fun _ => rfl)))))
  (bv_nil (sl := sl__law_mix_1) (h := fun s => s) (fun _ => Wk.refl _)))))))
/-! ## check_base -/
structure S_check_base where
  mk ::
  v_base : Int
@[reducible] def sl_check_base_0 (s : S_check_base) : Sl := (fun s : S_check_base => ([some (Mo.a, enc s.v_base)] : Sl)) s
def fb_check_base (s : S_check_base) : Option (Out S_check_base Unit) :=
  seqO ((((some (2 : Int)).bind fun x16 => (some s.v_base).bind fun x17 => (some (decide (x16 ≤ x17))).bind fun x19 => if x19 = true then (some (36 : Int)).bind fun x18 => some (decide (x17 ≤ x18)) else some false).bind fun x20 => some (!x20)).bind fun x21 => if x21 = true then
  (seqO (none) fun s =>
  some (Out.nx (ρ := Unit) s))
  else some (Out.nx (ρ := Unit) s)) fun s =>
  some (Out.nx (ρ := Unit) s)
def F_check_base (v_base : Int) : Option Unit := outF (some ()) (fb_check_base (⟨v_base⟩ : S_check_base))
@[reducible] def sa_check_base (a : Int × Unit) : Sl := [some (Mo.a, enc a.1)]
@[reducible] def in_check_base (a : Int × Unit) : S_check_base := ⟨a.1⟩
abbrev N_check_base : List Str := ["base"]
abbrev s_check_base : Stmt := topS 8
theorem sc_check_base : FnScope N_check_base ["base"] (defScope s_check_base) := ⟨rfl, rfl, rfl, by decide +kernel, rfl, by decide +kernel, by decide +kernel⟩
theorem ok_check_base (T : Top K mg) : FnOk P w K mg base CX0 1 T.a_check_base T.d_check_base ["base"] (spF K N_check_base 1 sa_check_base .a (fun a => F_check_base a.1)) := by
  have nd := sc_check_base.nd
  refine fn_v (slE := sl_check_base_0) (fb := fun a => fb_check_base (in_check_base a)) (some ()) T.F_check_base sc_check_base rfl (fun _ h => by cases h; rfl) (.inl rfl) (fun _ => rfl) fun cdv A outer s H E hr => ?_
  exact (bv_wk (sl'' := sl_check_base_0) (h := in_check_base) (fun _ => Wk.refl _)
  (bv_cons (sl'' := sl_check_base_0) (sv_if (pb_not (pb_chain c_le c_le (PV.ab (pv_gint (i := 2) (by rfl) T.c_LEAST_BASE.choose_spec ⟨_, rfl⟩)) (PV.ab (pv_var (i := 0) (fun s : S_check_base => s.v_base) (fun _ => rfl))) (PV.ab (pv_gint (i := 36) (by rfl) T.c_MOST_BASE.choose_spec ⟨_, rfl⟩))))
  (bv_cons (sl'' := sl_check_base_0) sv_never
  (bv_nil (sl := sl_check_base_0) (h := fun s => s) (fun _ => Wk.refl _)))
  (bv_nil (h := fun (s : S_check_base) => (s : S_check_base)) (fun _ => (.s .nil))))
  (bv_nil (h := fun (s : S_check_base) => (s : S_check_base)) (fun _ => (.s .nil)))))
/-! ## check_numbers -/
structure S_check_numbers where
  mk ::
  v_base : Int
  v_told : (List (T3 Int Int Int))
  v_number : Int
  v_least : Int
  v_most : Int
@[reducible] def sl_check_numbers_0 (s : S_check_numbers) : Sl := (fun s : S_check_numbers => ([some (Mo.a, enc s.v_base), some (Mo.b, enc s.v_told), some (Mo.a, enc s.v_number), some (Mo.a, enc s.v_least), some (Mo.a, enc s.v_most)] : Sl)) s
@[reducible] def sl_check_numbers_1 (s : S_check_numbers) : Sl := (fun s : S_check_numbers => ([some (Mo.a, enc s.v_base), some (Mo.b, enc s.v_told), some (Mo.a, enc s.v_number), none, none] : Sl)) s
@[reducible] def sl_check_numbers_2 (s : S_check_numbers) : Sl := (fun s : S_check_numbers => ([some (Mo.a, enc s.v_base), some (Mo.b, enc s.v_told), some (Mo.a, enc s.v_number), some (Mo.a, enc s.v_least), none] : Sl)) s
@[reducible] def sl_check_numbers_3 (s : S_check_numbers) : Sl := (fun s : S_check_numbers => ([some (Mo.a, enc s.v_base), some (Mo.b, enc s.v_told), none, none, none] : Sl)) s
def lp_check_numbers_0 (s : S_check_numbers) : Option (Out S_check_numbers Unit) :=
  seqO ((((some s.v_least).bind fun x38 => (some s.v_number).bind fun x39 => (some (decide (x38 ≤ x39))).bind fun x41 => if x41 = true then (some s.v_most).bind fun x40 => some (decide (x39 ≤ x40)) else some false).bind fun x42 => some (!x42)).bind fun x43 => if x43 = true then
  (seqO (none) fun s =>
  some (Out.nx (ρ := Unit) s))
  else some (Out.nx (ρ := Unit) s)) fun s =>
  some (Out.nx (ρ := Unit) { s with v_number := 0, v_least := 0, v_most := 0 })
def fb_check_numbers (s : S_check_numbers) : Option (Out S_check_numbers Unit) :=
  seqO ((((some s.v_base).bind fun x15 => (some ()).bind fun x16 => some (x15, x16)).bind fun x17 => F_check_base x17.1).bind fun _ => some (Out.nx (ρ := Unit) s)) fun s =>
  seqO ((some s.v_told).bind fun x44 => forO (fun (s : S_check_numbers) (t : (T3 Int Int Int)) => { ({ ({ s with v_number := t.a }) with v_least := t.b }) with v_most := t.c }) lp_check_numbers_0 x44 s) fun s =>
  some (Out.nx (ρ := Unit) s)
def F_check_numbers (v_base : Int) (v_told : (List (T3 Int Int Int))) : Option Unit := outF (some ()) (fb_check_numbers (⟨v_base, v_told, 0, 0, 0⟩ : S_check_numbers))
@[reducible] def sa_check_numbers (a : Int × (List (T3 Int Int Int)) × Unit) : Sl := [some (Mo.a, enc a.1), some (Mo.b, enc a.2.1), none, none, none]
@[reducible] def in_check_numbers (a : Int × (List (T3 Int Int Int)) × Unit) : S_check_numbers := ⟨a.1, a.2.1, 0, 0, 0⟩
abbrev N_check_numbers : List Str := ["base", "told", "number", "least", "most"]
abbrev s_check_numbers : Stmt := topS 11
theorem sc_check_numbers : FnScope N_check_numbers ["base", "told"] (defScope s_check_numbers) := ⟨rfl, rfl, rfl, by decide +kernel, rfl, by decide +kernel, by decide +kernel⟩
theorem ok_check_numbers (T : Top K mg) : FnOk P w K mg base CX0 2 T.a_check_numbers T.d_check_numbers ["base", "told"] (spF K N_check_numbers 2 sa_check_numbers .a (fun a => F_check_numbers a.1 a.2.1)) := by
  have nd := sc_check_numbers.nd
  refine fn_v (slE := sl_check_numbers_3) (fb := fun a => fb_check_numbers (in_check_numbers a)) (some ()) T.F_check_numbers sc_check_numbers rfl (fun _ h => by cases h; rfl) (.inl rfl) (fun _ => rfl) fun cdv A outer s H E hr => ?_
  exact (bv_wk (sl'' := sl_check_numbers_3) (h := in_check_numbers) (fun _ => Wk.refl _)
  (bv_cons (sl'' := sl_check_numbers_3) (sv_expr (pv_calla (ok_check_base T) (hr.mono (by decide)) (by rfl) T.m_check_base T.F_check_base.kp T.b_check_base (av_a (pv_var (i := 0) (fun s : S_check_numbers => s.v_base) (fun _ => rfl)) av_nil) (fun _ => ⟨0, rfl, rfl⟩)))
  (bv_cons (sl'' := sl_check_numbers_3) (sv_for (sl := sl_check_numbers_3) PassesOwn.never (piv_varb (i := 1) (fun s : S_check_numbers => s.v_told) (fun _ => rfl)) (gv_tup (fun t : (T3 Int Int Int) => [enc t.a, enc t.b, enc t.c]) (fun _ => rfl) (fun _ => rfl) (gvs_cons (p1 := fun t : (T3 Int Int Int) => t.a) (p2 := fun t : (T3 Int Int Int) => t) (gv_name (i := 2) (slb := sl_check_numbers_1) (set := fun (s : S_check_numbers) (t : Int) => { s with v_number := t }) (fun _ _ => rfl) nd) (gvs_cons (p1 := fun t : (T3 Int Int Int) => t.b) (p2 := fun t : (T3 Int Int Int) => t) (gv_name (i := 3) (slb := sl_check_numbers_2) (set := fun (s : S_check_numbers) (t : Int) => { s with v_least := t }) (fun _ _ => rfl) nd) (gvs_cons (p1 := fun t : (T3 Int Int Int) => t.c) (p2 := fun t : (T3 Int Int Int) => t) (gv_name (i := 4) (slb := sl_check_numbers_0) (set := fun (s : S_check_numbers) (t : Int) => { s with v_most := t }) (fun _ _ => rfl) nd) gvs_nil))))
  (bv_cons (sl'' := sl_check_numbers_0) (sv_if (pb_not (pb_chain c_le c_le (PV.ab (pv_var (i := 3) (fun s : S_check_numbers => s.v_least) (fun _ => rfl))) (PV.ab (pv_var (i := 2) (fun s : S_check_numbers => s.v_number) (fun _ => rfl))) (PV.ab (pv_var (i := 4) (fun s : S_check_numbers => s.v_most) (fun _ => rfl)))))
  (bv_cons (sl'' := sl_check_numbers_0) sv_never
  (bv_nil (sl := sl_check_numbers_0) (h := fun s => s) (fun _ => Wk.refl _)))
  (bv_nil (h := fun (s : S_check_numbers) => (s : S_check_numbers)) (fun _ => (.s (.s (.s (.s (.s .nil))))))))
  (bv_nil (h := fun (s : S_check_numbers) => ({ s with v_number := 0, v_least := 0, v_most := 0 } : S_check_numbers)) (fun _ => (.s (.s (.d (.d (.d .nil)))))))))
  (bv_nil (h := fun (s : S_check_numbers) => (s : S_check_numbers)) (fun _ => (.s (.s (.s (.s (.s .nil))))))))))
/-! ## power_in -/
structure S_power_in where
  mk ::
  v_number : Int
  v_prime : Int
  v_found : Int
@[reducible] def sl_power_in_0 (s : S_power_in) : Sl := (fun s : S_power_in => ([some (Mo.a, enc s.v_number), some (Mo.a, enc s.v_prime), some (Mo.a, enc s.v_found)] : Sl)) s
@[reducible] def sl_power_in_1 (s : S_power_in) : Sl := (fun s : S_power_in => ([some (Mo.a, enc s.v_number), some (Mo.a, enc s.v_prime), none] : Sl)) s
def lp_power_in_0 (s : S_power_in) : Option (Out S_power_in Int) :=
  seqO (((some s.v_number).bind fun x38 => (some s.v_prime).bind fun x39 => iDiv x38 x39).bind fun x40 => some (Out.nx (ρ := Int) { s with v_number := x40 })) fun s =>
  seqO (((some s.v_found).bind fun x47 => (some s.v_number).bind fun x48 => some (x47 + x48)).bind fun x49 => some (Out.nx (ρ := Int) { s with v_found := x49 })) fun s =>
  some (Out.nx (ρ := Int) s)
def lc_power_in_1 (s : S_power_in) : Option Bool :=
  (some s.v_number).bind fun x30 => (some (0 : Int)).bind fun x31 => some (decide (x30 > x31))
def fb_power_in (s : S_power_in) : Option (Out S_power_in Int) :=
  seqO ((some (0 : Int)).bind fun x13 => some (Out.nx (ρ := Int) { s with v_found := x13 })) fun s =>
  seqO (whileO lc_power_in_1 lp_power_in_0 FUEL s) fun s =>
  seqO ((some s.v_found).bind fun x52 => some (Out.rt x52)) fun s =>
  some (Out.nx (ρ := Int) s)
def F_power_in (v_number : Int) (v_prime : Int) : Option Int := outF none (fb_power_in (⟨v_number, v_prime, 0⟩ : S_power_in))
@[reducible] def sa_power_in (a : Int × Int × Unit) : Sl := [some (Mo.a, enc a.1), some (Mo.a, enc a.2.1), none]
@[reducible] def in_power_in (a : Int × Int × Unit) : S_power_in := ⟨a.1, a.2.1, 0⟩
abbrev N_power_in : List Str := ["number", "prime", "found"]
abbrev s_power_in : Stmt := topS 18
theorem sc_power_in : FnScope N_power_in ["number", "prime"] (defScope s_power_in) := ⟨rfl, rfl, rfl, by decide +kernel, rfl, by decide +kernel, by decide +kernel⟩
theorem ok_power_in (T : Top K mg) : FnOk P w K mg base CX0 1 T.a_power_in T.d_power_in ["number", "prime"] (spF K N_power_in 2 sa_power_in .a (fun a => F_power_in a.1 a.2.1)) := by
  have nd := sc_power_in.nd
  refine fn_v (slE := sl_power_in_1) (fb := fun a => fb_power_in (in_power_in a)) none T.F_power_in sc_power_in rfl (fun _ h => nomatch h) (.inl rfl) (fun _ => rfl) fun cdv A outer s H E hr => ?_
  exact (bv_wk (sl'' := sl_power_in_1) (h := in_power_in) (fun _ => Wk.refl _)
  (bv_cons (sl'' := sl_power_in_0) (sv_set (i := 2) (fun (s : S_power_in) t => { s with v_found := t }) (fun _ _ => rfl) nd pv_int)
  (bv_cons (sl'' := sl_power_in_0) (sv_while (sl := sl_power_in_0) FUEL PassesOwn.never (pb_cmp c_gt (PV.ab (pv_var (i := 0) (fun s : S_power_in => s.v_number) (fun _ => rfl))) (PV.ab pv_int))
  (bv_cons (sl'' := sl_power_in_0) (sv_set (i := 0) (fun (s : S_power_in) t => { s with v_number := t }) (fun _ _ => rfl) nd (pv_div (PV.ab (pv_var (i := 0) (fun s : S_power_in => s.v_number) (fun _ => rfl))) (PV.ab (pv_var (i := 1) (fun s : S_power_in => s.v_prime) (fun _ => rfl)))))
  (bv_cons (sl'' := sl_power_in_0) (sv_set (i := 2) (fun (s : S_power_in) t => { s with v_found := t }) (fun _ _ => rfl) nd (pv_add (PV.ab (pv_var (i := 2) (fun s : S_power_in => s.v_found) (fun _ => rfl))) (PV.ab (pv_var (i := 0) (fun s : S_power_in => s.v_number) (fun _ => rfl)))))
  (bv_nil (h := fun (s : S_power_in) => (s : S_power_in)) (fun _ => (.s (.s (.s .nil))))))))
  (bv_cons (sl'' := sl_power_in_1) (sv_ret (pv_var (i := 2) (fun s : S_power_in => s.v_found) (fun _ => rfl)))
  (bv_nil (sl := sl_power_in_1) (h := fun s => s) (fun _ => Wk.refl _))))))
/-! ## primes_of -/
structure S_primes_of where
  mk ::
  v_base : Int
  v_found : (List (T2 Int Int))
  v_left : Int
  v_prime : Int
  v_many : Int
@[reducible] def sl_primes_of_0 (s : S_primes_of) : Sl := (fun s : S_primes_of => ([some (Mo.a, enc s.v_base), some (Mo.o, enc s.v_found), some (Mo.a, enc s.v_left), some (Mo.a, enc s.v_prime), some (Mo.a, enc s.v_many)] : Sl)) s
@[reducible] def sl_primes_of_1 (s : S_primes_of) : Sl := (fun s : S_primes_of => ([some (Mo.a, enc s.v_base), some (Mo.o, enc s.v_found), some (Mo.a, enc s.v_left), some (Mo.a, enc s.v_prime), none] : Sl)) s
@[reducible] def sl_primes_of_2 (s : S_primes_of) : Sl := (fun s : S_primes_of => ([some (Mo.a, enc s.v_base), none, none, none, none] : Sl)) s
@[reducible] def sl_primes_of_3 (s : S_primes_of) : Sl := (fun s : S_primes_of => ([some (Mo.a, enc s.v_base), some (Mo.o, enc s.v_found), some (Mo.a, enc s.v_left), none, none] : Sl)) s
@[reducible] def sl_primes_of_4 (s : S_primes_of) : Sl := (fun s : S_primes_of => ([some (Mo.a, enc s.v_base), some (Mo.o, enc s.v_found), none, none, none] : Sl)) s
def lp_primes_of_0 (s : S_primes_of) : Option (Out S_primes_of (List (T2 Int Int))) :=
  seqO (((some s.v_left).bind fun x114 => (some s.v_prime).bind fun x115 => iDiv x114 x115).bind fun x116 => some (Out.nx (ρ := (List (T2 Int Int))) { s with v_left := x116 })) fun s =>
  seqO (((some s.v_many).bind fun x123 => (some (1 : Int)).bind fun x124 => some (x123 + x124)).bind fun x125 => some (Out.nx (ρ := (List (T2 Int Int))) { s with v_many := x125 })) fun s =>
  some (Out.nx (ρ := (List (T2 Int Int))) s)
def lc_primes_of_1 (s : S_primes_of) : Option Bool :=
  ((some s.v_left).bind fun x104 => (some s.v_prime).bind fun x105 => iMod x104 x105).bind fun x106 => (some (0 : Int)).bind fun x107 => some (decide (x106 = x107))
def lp_primes_of_2 (s : S_primes_of) : Option (Out S_primes_of (List (T2 Int Int))) :=
  seqO ((some (0 : Int)).bind fun x83 => some (Out.nx (ρ := (List (T2 Int Int))) { s with v_many := x83 })) fun s =>
  seqO (whileO lc_primes_of_1 lp_primes_of_0 FUEL s) fun s =>
  seqO (((some s.v_many).bind fun x134 => (some (0 : Int)).bind fun x135 => some (decide (x134 > x135))).bind fun x148 => if x148 = true then
  (seqO (((some s.v_prime).bind fun x144 => (some s.v_many).bind fun x145 => some (T2.mk x144 x145)).bind fun x146 => (push s.v_found x146).bind fun x147 => some (Out.nx (ρ := (List (T2 Int Int))) { s with v_found := x147 })) fun s =>
  some (Out.nx (ρ := (List (T2 Int Int))) s))
  else some (Out.nx (ρ := (List (T2 Int Int))) s)) fun s =>
  seqO (((some s.v_prime).bind fun x155 => (some (1 : Int)).bind fun x156 => some (x155 + x156)).bind fun x157 => some (Out.nx (ρ := (List (T2 Int Int))) { s with v_prime := x157 })) fun s =>
  some (Out.nx (ρ := (List (T2 Int Int))) { s with v_many := 0 })
def lc_primes_of_3 (s : S_primes_of) : Option Bool :=
  (some s.v_left).bind fun x79 => (some (1 : Int)).bind fun x80 => some (decide (x79 > x80))
def fb_primes_of (s : S_primes_of) : Option (Out S_primes_of (List (T2 Int Int))) :=
  seqO ((some ([] : List (T2 Int Int))).bind fun x28 => some (Out.nx (ρ := (List (T2 Int Int))) { s with v_found := x28 })) fun s =>
  seqO ((some s.v_base).bind fun x31 => some (Out.nx (ρ := (List (T2 Int Int))) { s with v_left := x31 })) fun s =>
  seqO ((some (2 : Int)).bind fun x34 => some (Out.nx (ρ := (List (T2 Int Int))) { s with v_prime := x34 })) fun s =>
  seqO (whileO lc_primes_of_3 lp_primes_of_2 FUEL s) fun s =>
  seqO (some (Out.rt s.v_found)) fun s =>
  some (Out.nx (ρ := (List (T2 Int Int))) s)
def F_primes_of (v_base : Int) : Option (List (T2 Int Int)) := outF none (fb_primes_of (⟨v_base, [], 0, 0, 0⟩ : S_primes_of))
@[reducible] def sa_primes_of (a : Int × Unit) : Sl := [some (Mo.a, enc a.1), none, none, none, none]
@[reducible] def in_primes_of (a : Int × Unit) : S_primes_of := ⟨a.1, [], 0, 0, 0⟩
abbrev N_primes_of : List Str := ["base", "found", "left", "prime", "many"]
abbrev s_primes_of : Stmt := topS 15
theorem sc_primes_of : FnScope N_primes_of ["base"] (defScope s_primes_of) := ⟨rfl, rfl, rfl, by decide +kernel, rfl, by decide +kernel, by decide +kernel⟩
theorem ok_primes_of (T : Top K mg) : FnOk P w K mg base CX0 1 T.a_primes_of T.d_primes_of ["base"] (spF K N_primes_of 1 sa_primes_of .f (fun a => F_primes_of a.1)) := by
  have nd := sc_primes_of.nd
  refine fn_v (slE := sl_primes_of_2) (fb := fun a => fb_primes_of (in_primes_of a)) none T.F_primes_of sc_primes_of rfl (fun _ h => nomatch h) (.inr ⟨rfl, rfl⟩) (fun _ => rfl) fun cdv A outer s H E hr => ?_
  exact (bv_wk (sl'' := sl_primes_of_2) (h := in_primes_of) (fun _ => Wk.refl _)
  (bv_cons (sl'' := sl_primes_of_4) (sv_own (i := 1) (fun (s : S_primes_of) t => { s with v_found := t }) (fun _ _ => rfl) nd (pv_lst (pal_nil (τ := (T2 Int Int)))))
  (bv_cons (sl'' := sl_primes_of_3) (sv_set (i := 2) (fun (s : S_primes_of) t => { s with v_left := t }) (fun _ _ => rfl) nd (pv_var (i := 0) (fun s : S_primes_of => s.v_base) (fun _ => rfl)))
  (bv_cons (sl'' := sl_primes_of_1) (sv_set (i := 3) (fun (s : S_primes_of) t => { s with v_prime := t }) (fun _ _ => rfl) nd pv_int)
  (bv_cons (sl'' := sl_primes_of_1) (sv_while (sl := sl_primes_of_1) FUEL PassesOwn.never (pb_cmp c_gt (PV.ab (pv_var (i := 2) (fun s : S_primes_of => s.v_left) (fun _ => rfl))) (PV.ab pv_int))
  (bv_cons (sl'' := sl_primes_of_0) (sv_set (i := 4) (fun (s : S_primes_of) t => { s with v_many := t }) (fun _ _ => rfl) nd pv_int)
  (bv_cons (sl'' := sl_primes_of_0) (sv_while (sl := sl_primes_of_0) FUEL PassesOwn.never (pb_cmp c_eqS (PV.ab (pv_mod (PV.ab (pv_var (i := 2) (fun s : S_primes_of => s.v_left) (fun _ => rfl))) (PV.ab (pv_var (i := 3) (fun s : S_primes_of => s.v_prime) (fun _ => rfl))))) (PV.ab pv_int))
  (bv_cons (sl'' := sl_primes_of_0) (sv_set (i := 2) (fun (s : S_primes_of) t => { s with v_left := t }) (fun _ _ => rfl) nd (pv_div (PV.ab (pv_var (i := 2) (fun s : S_primes_of => s.v_left) (fun _ => rfl))) (PV.ab (pv_var (i := 3) (fun s : S_primes_of => s.v_prime) (fun _ => rfl)))))
  (bv_cons (sl'' := sl_primes_of_0) (sv_set (i := 4) (fun (s : S_primes_of) t => { s with v_many := t }) (fun _ _ => rfl) nd (pv_add (PV.ab (pv_var (i := 4) (fun s : S_primes_of => s.v_many) (fun _ => rfl))) (PV.ab pv_int)))
  (bv_nil (h := fun (s : S_primes_of) => (s : S_primes_of)) (fun _ => (.s (.s (.s (.s (.s .nil))))))))))
  (bv_cons (sl'' := sl_primes_of_0) (sv_if (pb_cmp c_gt (PV.ab (pv_var (i := 4) (fun s : S_primes_of => s.v_many) (fun _ => rfl))) (PV.ab pv_int))
  (bv_cons (sl'' := sl_primes_of_0) (sv_app (i := 1) (fun s : S_primes_of => s.v_found) (fun s t => { s with v_found := t }) (fun _ => rfl) (fun _ _ => rfl) (pv_tup2 (pv_var (i := 3) (fun s : S_primes_of => s.v_prime) (fun _ => rfl)) (pv_var (i := 4) (fun s : S_primes_of => s.v_many) (fun _ => rfl))))
  (bv_nil (h := fun (s : S_primes_of) => (s : S_primes_of)) (fun _ => (.s (.s (.s (.s (.s .nil))))))))
  (bv_nil (h := fun (s : S_primes_of) => (s : S_primes_of)) (fun _ => (.s (.s (.s (.s (.s .nil))))))))
  (bv_cons (sl'' := sl_primes_of_0) (sv_set (i := 3) (fun (s : S_primes_of) t => { s with v_prime := t }) (fun _ _ => rfl) nd (pv_add (PV.ab (pv_var (i := 3) (fun s : S_primes_of => s.v_prime) (fun _ => rfl))) (PV.ab pv_int)))
  (bv_nil (h := fun (s : S_primes_of) => ({ s with v_many := 0 } : S_primes_of)) (fun _ => (.s (.s (.s (.s (.d .nil))))))))))))
  (bv_cons (sl'' := sl_primes_of_2) (sv_reto (i := 1) (fun s : S_primes_of => s.v_found) (fun _ => rfl))
  (bv_nil (sl := sl_primes_of_2) (h := fun s => s) (fun _ => Wk.refl _))))))))
/-! ## product_zeros -/
structure S_product_zeros where
  mk ::
  v_number : Int
  v_base : Int
@[reducible] def sl_product_zeros_0 (s : S_product_zeros) : Sl := (fun s : S_product_zeros => ([some (Mo.a, enc s.v_number), some (Mo.a, enc s.v_base), none, none] : Sl)) s
def fb_product_zeros (s : S_product_zeros) : Option (Out S_product_zeros Int) :=
  seqO ((((((some s.v_base).bind fun x43 => (some ()).bind fun x44 => some (x43, x44)).bind fun x45 => F_primes_of x45.1).bind fun x53 => (lNew x53).bind fun x54 => compO (fun s : ((S_product_zeros × Int) × Int) => some true) (fun s : ((S_product_zeros × Int) × Int) => (((some s.1.1.v_number).bind fun x46 => ((some s.1.2).bind fun x47 => (some ()).bind fun x48 => some (x47, x48)).bind fun x49 => some (x46, x49)).bind fun x50 => F_power_in x50.1 x50.2.1).bind fun x51 => (some s.2).bind fun x52 => iDiv x51 x52) (fun t : (T2 Int Int) => (((s, t.a), t.b) : ((S_product_zeros × Int) × Int))) x54).bind fun x55 => least x55).bind fun x56 => some (Out.rt x56)) fun s =>
  some (Out.nx (ρ := Int) s)
def F_product_zeros (v_number : Int) (v_base : Int) : Option Int := outF none (fb_product_zeros (⟨v_number, v_base⟩ : S_product_zeros))
@[reducible] def sa_product_zeros (a : Int × Int × Unit) : Sl := [some (Mo.a, enc a.1), some (Mo.a, enc a.2.1), none, none]
@[reducible] def in_product_zeros (a : Int × Int × Unit) : S_product_zeros := ⟨a.1, a.2.1⟩
abbrev N_product_zeros : List Str := ["number", "base", "prime", "many"]
abbrev s_product_zeros : Stmt := topS 19
theorem sc_product_zeros : FnScope N_product_zeros ["number", "base"] (defScope s_product_zeros) := ⟨rfl, rfl, rfl, by decide +kernel, rfl, by decide +kernel, by decide +kernel⟩
theorem ok_product_zeros (T : Top K mg) : FnOk P w K mg base CX0 2 T.a_product_zeros T.d_product_zeros ["number", "base"] (spF K N_product_zeros 2 sa_product_zeros .a (fun a => F_product_zeros a.1 a.2.1)) := by
  have nd := sc_product_zeros.nd
  refine fn_v (slE := sl_product_zeros_0) (fb := fun a => fb_product_zeros (in_product_zeros a)) none T.F_product_zeros sc_product_zeros rfl (fun _ h => nomatch h) (.inl rfl) (fun _ => rfl) fun cdv A outer s H E hr => ?_
  exact (bv_wk (sl'' := sl_product_zeros_0) (h := in_product_zeros) (fun _ => Wk.refl _)
  (bv_cons (sl'' := sl_product_zeros_0) (sv_ret (pv_min1 (by rfl) T.z_min (PV.fb (pv_lc (own := [("prime", 2), ("many", 3)]) (js := [2, 3]) (slb := (fun s : ((S_product_zeros × Int) × Int) => ([some (Mo.a, enc s.1.1.v_number), some (Mo.a, enc s.1.1.v_base), some (Mo.a, enc s.1.2), some (Mo.a, enc s.2)] : Sl))) (set := fun (g : S_product_zeros) (t : (T2 Int Int)) => (((g, t.a), t.b) : ((S_product_zeros × Int) × Int))) nd (IV.ab (piv_list (PV.fa (pv_callf (ok_primes_of T) (hr.mono (by decide)) (by rfl) T.m_primes_of T.F_primes_of.kp T.b_primes_of (av_a (pv_var (i := 1) (fun s : S_product_zeros => s.v_base) (fun _ => rfl)) av_nil) (fun _ => ⟨4, rfl, rfl⟩))))) (blkOk_by (N := N_product_zeros) (sc := defScope s_product_zeros) (by decide +kernel)) (by decide) (fun _ _ _ _ _ => (gv_tup (fun t : (T2 Int Int) => [enc t.a, enc t.b]) (fun _ => rfl) (fun _ => rfl) (gvs_cons (p1 := fun t : (T2 Int Int) => t.a) (p2 := fun t : (T2 Int Int) => t) (gv_name (i := 2) (slb := (fun s : (S_product_zeros × Int) => ([some (Mo.a, enc s.1.v_number), some (Mo.a, enc s.1.v_base), some (Mo.a, enc s.2), none] : Sl))) (set := fun (g : S_product_zeros) (t : Int) => ((g, t) : (S_product_zeros × Int))) (fun _ _ => rfl) nd) (gvs_cons (p1 := fun t : (T2 Int Int) => t.b) (p2 := fun t : (T2 Int Int) => t) (gv_name (i := 3) (slb := (fun s : ((S_product_zeros × Int) × Int) => ([some (Mo.a, enc s.1.1.v_number), some (Mo.a, enc s.1.1.v_base), some (Mo.a, enc s.1.2), some (Mo.a, enc s.2)] : Sl))) (set := fun (g : (S_product_zeros × Int)) (t : Int) => ((g, t) : ((S_product_zeros × Int) × Int))) (fun _ _ => rfl) nd) gvs_nil)))) (fun _ _ _ _ _ => pbs_nil) (fun _ _ _ _ _ => (pv_div (PV.ab (pv_calla (ok_power_in T) (hr.mono (by decide)) (by rfl) T.m_power_in T.F_power_in.kp T.b_power_in (av_a (pv_var (i := 0) (fun s : ((S_product_zeros × Int) × Int) => s.1.1.v_number) (fun _ => rfl)) (av_a (pv_var (i := 2) (fun s : ((S_product_zeros × Int) × Int) => s.1.2) (fun _ => rfl)) av_nil)) (fun _ => ⟨1, rfl, rfl⟩))) (PV.ab (pv_var (i := 3) (fun s : ((S_product_zeros × Int) × Int) => s.2) (fun _ => rfl)))))))))
  (bv_nil (sl := sl_product_zeros_0) (h := fun s => s) (fun _ => Wk.refl _))))
/-! ## least_with -/
structure S_least_with where
  mk ::
  v_many : Int
  v_base : Int
  v_low : Int
  v_high : Int
  v_middle : Int
@[reducible] def sl_least_with_0 (s : S_least_with) : Sl := (fun s : S_least_with => ([some (Mo.a, enc s.v_many), some (Mo.a, enc s.v_base), some (Mo.a, enc s.v_low), some (Mo.a, enc s.v_high), some (Mo.a, enc s.v_middle)] : Sl)) s
@[reducible] def sl_least_with_1 (s : S_least_with) : Sl := (fun s : S_least_with => ([some (Mo.a, enc s.v_many), some (Mo.a, enc s.v_base), some (Mo.a, enc s.v_low), some (Mo.a, enc s.v_high), none] : Sl)) s
@[reducible] def sl_least_with_2 (s : S_least_with) : Sl := (fun s : S_least_with => ([some (Mo.a, enc s.v_many), some (Mo.a, enc s.v_base), none, none, none] : Sl)) s
@[reducible] def sl_least_with_3 (s : S_least_with) : Sl := (fun s : S_least_with => ([some (Mo.a, enc s.v_many), some (Mo.a, enc s.v_base), some (Mo.a, enc s.v_low), none, none] : Sl)) s
def lp_least_with_0 (s : S_least_with) : Option (Out S_least_with Int) :=
  seqO ((((some s.v_low).bind fun x92 => (some s.v_high).bind fun x93 => some (x92 + x93)).bind fun x94 => (some (2 : Int)).bind fun x95 => iDiv x94 x95).bind fun x96 => some (Out.nx (ρ := Int) { s with v_middle := x96 })) fun s =>
  seqO (((((some s.v_middle).bind fun x115 => ((some s.v_base).bind fun x116 => (some ()).bind fun x117 => some (x116, x117)).bind fun x118 => some (x115, x118)).bind fun x119 => F_product_zeros x119.1 x119.2.1).bind fun x120 => (some s.v_many).bind fun x121 => some (decide (x120 < x121))).bind fun x134 => if x134 = true then
  (seqO (((some s.v_middle).bind fun x128 => (some (1 : Int)).bind fun x129 => some (x128 + x129)).bind fun x130 => some (Out.nx (ρ := Int) { s with v_low := x130 })) fun s =>
  some (Out.nx (ρ := Int) s))
  else seqO ((some s.v_middle).bind fun x133 => some (Out.nx (ρ := Int) { s with v_high := x133 })) fun s =>
  some (Out.nx (ρ := Int) s)) fun s =>
  some (Out.nx (ρ := Int) { s with v_middle := 0 })
def lc_least_with_1 (s : S_least_with) : Option Bool :=
  (some s.v_low).bind fun x80 => (some s.v_high).bind fun x81 => some (decide (x80 < x81))
def fb_least_with (s : S_least_with) : Option (Out S_least_with Int) :=
  seqO ((some (0 : Int)).bind fun x28 => some (Out.nx (ρ := Int) { s with v_low := x28 })) fun s =>
  seqO (((some s.v_base).bind fun x41 => ((some s.v_many).bind fun x39 => (some (1 : Int)).bind fun x40 => some (x39 + x40)).bind fun x42 => iMul x41 x42).bind fun x43 => some (Out.nx (ρ := Int) { s with v_high := x43 })) fun s =>
  seqO (whileO lc_least_with_1 lp_least_with_0 FUEL s) fun s =>
  seqO ((some s.v_low).bind fun x137 => some (Out.rt x137)) fun s =>
  some (Out.nx (ρ := Int) s)
def F_least_with (v_many : Int) (v_base : Int) : Option Int := outF none (fb_least_with (⟨v_many, v_base, 0, 0, 0⟩ : S_least_with))
@[reducible] def sa_least_with (a : Int × Int × Unit) : Sl := [some (Mo.a, enc a.1), some (Mo.a, enc a.2.1), none, none, none]
@[reducible] def in_least_with (a : Int × Int × Unit) : S_least_with := ⟨a.1, a.2.1, 0, 0, 0⟩
abbrev N_least_with : List Str := ["many", "base", "low", "high", "middle"]
abbrev s_least_with : Stmt := topS 21
theorem sc_least_with : FnScope N_least_with ["many", "base"] (defScope s_least_with) := ⟨rfl, rfl, rfl, by decide +kernel, rfl, by decide +kernel, by decide +kernel⟩
theorem ok_least_with (T : Top K mg) : FnOk P w K mg base CX0 3 T.a_least_with T.d_least_with ["many", "base"] (spF K N_least_with 2 sa_least_with .a (fun a => F_least_with a.1 a.2.1)) := by
  have nd := sc_least_with.nd
  refine fn_v (slE := sl_least_with_2) (fb := fun a => fb_least_with (in_least_with a)) none T.F_least_with sc_least_with rfl (fun _ h => nomatch h) (.inl rfl) (fun _ => rfl) fun cdv A outer s H E hr => ?_
  exact (bv_wk (sl'' := sl_least_with_2) (h := in_least_with) (fun _ => Wk.refl _)
  (bv_cons (sl'' := sl_least_with_3) (sv_set (i := 2) (fun (s : S_least_with) t => { s with v_low := t }) (fun _ _ => rfl) nd pv_int)
  (bv_cons (sl'' := sl_least_with_1) (sv_set (i := 3) (fun (s : S_least_with) t => { s with v_high := t }) (fun _ _ => rfl) nd (pv_mul (PV.ab (pv_var (i := 1) (fun s : S_least_with => s.v_base) (fun _ => rfl))) (PV.ab (pv_add (PV.ab (pv_var (i := 0) (fun s : S_least_with => s.v_many) (fun _ => rfl))) (PV.ab pv_int)))))
  (bv_cons (sl'' := sl_least_with_1) (sv_while (sl := sl_least_with_1) FUEL PassesOwn.never (pb_cmp c_lt (PV.ab (pv_var (i := 2) (fun s : S_least_with => s.v_low) (fun _ => rfl))) (PV.ab (pv_var (i := 3) (fun s : S_least_with => s.v_high) (fun _ => rfl))))
  (bv_cons (sl'' := sl_least_with_0) (sv_set (i := 4) (fun (s : S_least_with) t => { s with v_middle := t }) (fun _ _ => rfl) nd (pv_div (PV.ab (pv_add (PV.ab (pv_var (i := 2) (fun s : S_least_with => s.v_low) (fun _ => rfl))) (PV.ab (pv_var (i := 3) (fun s : S_least_with => s.v_high) (fun _ => rfl))))) (PV.ab pv_int)))
  (bv_cons (sl'' := sl_least_with_0) (sv_if (pb_cmp c_lt (PV.ab (pv_calla (ok_product_zeros T) (hr.mono (by decide)) (by rfl) T.m_product_zeros T.F_product_zeros.kp T.b_product_zeros (av_a (pv_var (i := 4) (fun s : S_least_with => s.v_middle) (fun _ => rfl)) (av_a (pv_var (i := 1) (fun s : S_least_with => s.v_base) (fun _ => rfl)) av_nil)) (fun _ => ⟨2, rfl, rfl⟩))) (PV.ab (pv_var (i := 0) (fun s : S_least_with => s.v_many) (fun _ => rfl))))
  (bv_cons (sl'' := sl_least_with_0) (sv_set (i := 2) (fun (s : S_least_with) t => { s with v_low := t }) (fun _ _ => rfl) nd (pv_add (PV.ab (pv_var (i := 4) (fun s : S_least_with => s.v_middle) (fun _ => rfl))) (PV.ab pv_int)))
  (bv_nil (h := fun (s : S_least_with) => (s : S_least_with)) (fun _ => (.s (.s (.s (.s (.s .nil))))))))
  (bv_cons (sl'' := sl_least_with_0) (sv_set (i := 3) (fun (s : S_least_with) t => { s with v_high := t }) (fun _ _ => rfl) nd (pv_var (i := 4) (fun s : S_least_with => s.v_middle) (fun _ => rfl)))
  (bv_nil (h := fun (s : S_least_with) => (s : S_least_with)) (fun _ => (.s (.s (.s (.s (.s .nil)))))))))
  (bv_nil (h := fun (s : S_least_with) => ({ s with v_middle := 0 } : S_least_with)) (fun _ => (.s (.s (.s (.s (.d .nil))))))))))
  (bv_cons (sl'' := sl_least_with_2) (sv_ret (pv_var (i := 2) (fun s : S_least_with => s.v_low) (fun _ => rfl)))
  (bv_nil (sl := sl_least_with_2) (h := fun s => s) (fun _ => Wk.refl _)))))))
/-! ## products_with -/
structure S_products_with where
  mk ::
  v_many : Int
  v_base : Int
  v_first : Int
  v_behind : Int
@[reducible] def sl_products_with_0 (s : S_products_with) : Sl := (fun s : S_products_with => ([some (Mo.a, enc s.v_many), some (Mo.a, enc s.v_base), none, none] : Sl)) s
@[reducible] def sl_products_with_1 (s : S_products_with) : Sl := (fun s : S_products_with => ([some (Mo.a, enc s.v_many), some (Mo.a, enc s.v_base), some (Mo.a, enc s.v_first), some (Mo.a, enc s.v_behind)] : Sl)) s
@[reducible] def sl_products_with_2 (s : S_products_with) : Sl := (fun s : S_products_with => ([some (Mo.a, enc s.v_many), some (Mo.a, enc s.v_base), some (Mo.a, enc s.v_first), none] : Sl)) s
def fb_products_with (s : S_products_with) : Option (Out S_products_with (Option (T2 Int Int))) :=
  seqO ((((some s.v_base).bind fun x71 => ((((some s.v_many).bind fun x66 => (some (0 : Int)).bind fun x67 => (some (10000 : Int)).bind fun x68 => some (T3.mk x66 x67 x68)).bind fun x69 => (some ([] : List (T3 Int Int Int))).bind fun x70 => some (x69 :: x70)).bind fun x72 => (some ()).bind fun x73 => some (x72, x73)).bind fun x74 => some (x71, x74)).bind fun x75 => F_check_numbers x75.1 x75.2.1).bind fun _ => some (Out.nx (ρ := (Option (T2 Int Int))) s)) fun s =>
  seqO ((((some s.v_many).bind fun x88 => ((some s.v_base).bind fun x89 => (some ()).bind fun x90 => some (x89, x90)).bind fun x91 => some (x88, x91)).bind fun x92 => F_least_with x92.1 x92.2.1).bind fun x93 => some (Out.nx (ρ := (Option (T2 Int Int))) { s with v_first := x93 })) fun s =>
  seqO (((((some s.v_many).bind fun x110 => (some (1 : Int)).bind fun x111 => some (x110 + x111)).bind fun x112 => ((some s.v_base).bind fun x113 => (some ()).bind fun x114 => some (x113, x114)).bind fun x115 => some (x112, x115)).bind fun x116 => F_least_with x116.1 x116.2.1).bind fun x117 => some (Out.nx (ρ := (Option (T2 Int Int))) { s with v_behind := x117 })) fun s =>
  seqO ((((some s.v_behind).bind fun x136 => (some s.v_first).bind fun x137 => some (decide (x136 > x137))).bind fun x143 => if x143 = true then ((some s.v_first).bind fun x140 => ((some s.v_behind).bind fun x138 => (some s.v_first).bind fun x139 => some (x138 - x139)).bind fun x141 => some (T2.mk x140 x141)).bind fun x142 => some (some x142) else some (none : Option (T2 Int Int))).bind fun x144 => some (Out.rt x144)) fun s =>
  some (Out.nx (ρ := (Option (T2 Int Int))) s)
def F_products_with (v_many : Int) (v_base : Int) : Option (Option (T2 Int Int)) := outF none (fb_products_with (⟨v_many, v_base, 0, 0⟩ : S_products_with))
@[reducible] def sa_products_with (a : Int × Int × Unit) : Sl := [some (Mo.a, enc a.1), some (Mo.a, enc a.2.1), none, none]
@[reducible] def in_products_with (a : Int × Int × Unit) : S_products_with := ⟨a.1, a.2.1, 0, 0⟩
abbrev N_products_with : List Str := ["many", "base", "first", "behind"]
abbrev s_products_with : Stmt := topS 22
theorem sc_products_with : FnScope N_products_with ["many", "base"] (defScope s_products_with) := ⟨rfl, rfl, rfl, by decide +kernel, rfl, by decide +kernel, by decide +kernel⟩
theorem ok_products_with (T : Top K mg) : FnOk P w K mg base CX0 4 T.a_products_with T.d_products_with ["many", "base"] (spF K N_products_with 2 sa_products_with .a (fun a => F_products_with a.1 a.2.1)) := by
  have nd := sc_products_with.nd
  refine fn_v (slE := sl_products_with_0) (fb := fun a => fb_products_with (in_products_with a)) none T.F_products_with sc_products_with rfl (fun _ h => nomatch h) (.inl rfl) (fun _ => rfl) fun cdv A outer s H E hr => ?_
  exact (bv_wk (sl'' := sl_products_with_0) (h := in_products_with) (fun _ => Wk.refl _)
  (bv_cons (sl'' := sl_products_with_0) (sv_expr (pv_calla (ok_check_numbers T) (hr.mono (by decide)) (by rfl) T.m_check_numbers T.F_check_numbers.kp T.b_check_numbers (av_a (pv_var (i := 1) (fun s : S_products_with => s.v_base) (fun _ => rfl)) (av_b (PV.fb (pv_lst (pal_cons (pv_tup3 (pv_var (i := 0) (fun s : S_products_with => s.v_many) (fun _ => rfl)) pv_int (pv_gint (i := 10000) (by rfl) T.c_MOST_ZEROS.choose_spec ⟨_, rfl⟩)) (pal_nil (τ := (T3 Int Int Int)))))) av_nil)) (fun _ => ⟨3, rfl, rfl⟩)))
  (bv_cons (sl'' := sl_products_with_2) (sv_set (i := 2) (fun (s : S_products_with) t => { s with v_first := t }) (fun _ _ => rfl) nd (pv_calla (ok_least_with T) (hr.mono (by decide)) (by rfl) T.m_least_with T.F_least_with.kp T.b_least_with (av_a (pv_var (i := 0) (fun s : S_products_with => s.v_many) (fun _ => rfl)) (av_a (pv_var (i := 1) (fun s : S_products_with => s.v_base) (fun _ => rfl)) av_nil)) (fun _ => ⟨3, rfl, rfl⟩)))
  (bv_cons (sl'' := sl_products_with_1) (sv_set (i := 3) (fun (s : S_products_with) t => { s with v_behind := t }) (fun _ _ => rfl) nd (pv_calla (ok_least_with T) (hr.mono (by decide)) (by rfl) T.m_least_with T.F_least_with.kp T.b_least_with (av_a (pv_add (PV.ab (pv_var (i := 0) (fun s : S_products_with => s.v_many) (fun _ => rfl))) (PV.ab pv_int)) (av_a (pv_var (i := 1) (fun s : S_products_with => s.v_base) (fun _ => rfl)) av_nil)) (fun _ => ⟨3, rfl, rfl⟩)))
  (bv_cons (sl'' := sl_products_with_0) (sv_ret (pv_if (pb_cmp c_gt (PV.ab (pv_var (i := 3) (fun s : S_products_with => s.v_behind) (fun _ => rfl))) (PV.ab (pv_var (i := 2) (fun s : S_products_with => s.v_first) (fun _ => rfl)))) (PV.opt (pv_tup2 (pv_var (i := 2) (fun s : S_products_with => s.v_first) (fun _ => rfl)) (pv_sub (PV.ab (pv_var (i := 3) (fun s : S_products_with => s.v_behind) (fun _ => rfl))) (PV.ab (pv_var (i := 2) (fun s : S_products_with => s.v_first) (fun _ => rfl)))))) (pv_noneO (τ := (T2 Int Int)))))
  (bv_nil (sl := sl_products_with_0) (h := fun s => s) (fun _ => Wk.refl _)))))))
/-! ## _law_signs -/
abbrev S__law_signs := Unit
@[reducible] def sl__law_signs_0 (s : S__law_signs) : Sl := (fun s : S__law_signs => ([] : Sl)) s
def fb__law_signs (s : S__law_signs) : Option (Out S__law_signs Tx) :=
  seqO ((some (⟨[48, 49, 50, 51, 52, 53, 54, 55, 56, 57, 97, 98, 99, 100, 101, 102, 103, 104, 105, 106, 107, 108, 109, 110, 111, 112, 113, 114, 115, 116, 117, 118, 119, 120, 121, 122]⟩ : Tx)).bind fun x4 => some (Out.rt x4)) fun s =>
  some (Out.nx (ρ := Tx) s)
def F__law_signs  : Option Tx := outF none (fb__law_signs (() : S__law_signs))
@[reducible] def sa__law_signs (a : Unit) : Sl := []
@[reducible] def in__law_signs (a : Unit) : S__law_signs := ()
abbrev N__law_signs : List Str := []
abbrev s__law_signs : Stmt := topS 27
theorem sc__law_signs : FnScope N__law_signs [] (defScope s__law_signs) := ⟨rfl, rfl, rfl, by decide +kernel, rfl, by decide +kernel, by decide +kernel⟩
theorem ok__law_signs (T : Top K mg) : FnOk P w K mg base CX0 1 T.a__law_signs T.d__law_signs [] (spF K N__law_signs 0 sa__law_signs .a (fun a => F__law_signs )) := by
  have nd := sc__law_signs.nd
  refine fn_v (slE := sl__law_signs_0) (fb := fun a => fb__law_signs (in__law_signs a)) none T.F__law_signs sc__law_signs rfl (fun _ h => nomatch h) (.inl rfl) (fun _ => rfl) fun cdv A outer s H E hr => ?_
  exact (bv_wk (sl'' := sl__law_signs_0) (h := in__law_signs) (fun _ => Wk.refl _)
  (bv_cons (sl'' := sl__law_signs_0) (sv_ret (pv_str [48, 49, 50, 51, 52, 53, 54, 55, 56, 57, 97, 98, 99, 100, 101, 102, 103, 104, 105, 106, 107, 108, 109, 110, 111, 112, 113, 114, 115, 116, 117, 118, 119, 120, 121, 122]))
  (bv_nil (sl := sl__law_signs_0) (h := fun s => s) (fun _ => Wk.refl _))))
/-! ## _law_write -/
structure S__law_write where
  mk ::
  v_number : Int
  v_base : Int
  v_found : Tx
@[reducible] def sl__law_write_0 (s : S__law_write) : Sl := (fun s : S__law_write => ([some (Mo.a, enc s.v_number), some (Mo.a, enc s.v_base), some (Mo.a, enc s.v_found)] : Sl)) s
@[reducible] def sl__law_write_1 (s : S__law_write) : Sl := (fun s : S__law_write => ([some (Mo.a, enc s.v_number), some (Mo.a, enc s.v_base), none] : Sl)) s
def lp__law_write_0 (s : S__law_write) : Option (Out S__law_write Tx) :=
  seqO ((((F__law_signs).bind fun x78 => (((some s.v_number).bind fun x75 => some x75).bind fun x76 => (some s.v_base).bind fun x77 => iMod x76 x77).bind fun x79 => sIx x78 x79).bind fun x80 => (some s.v_found).bind fun x81 => tCat x80 x81).bind fun x82 => some (Out.nx (ρ := Tx) { s with v_found := x82 })) fun s =>
  seqO (((some s.v_number).bind fun x89 => (some s.v_base).bind fun x90 => iDiv x89 x90).bind fun x91 => some (Out.nx (ρ := Tx) { s with v_number := x91 })) fun s =>
  some (Out.nx (ρ := Tx) s)
def lc__law_write_1 (s : S__law_write) : Option Bool :=
  ((some s.v_number).bind fun x54 => (some (0 : Int)).bind fun x55 => some (decide (x54 > x55))).bind fun x58 => if x58 = true then some true else (some s.v_found).bind fun x56 => (some (⟨[]⟩ : Tx)).bind fun x57 => some (decide (x56 = x57))
def fb__law_write (s : S__law_write) : Option (Out S__law_write Tx) :=
  seqO ((some (⟨[]⟩ : Tx)).bind fun x21 => some (Out.nx (ρ := Tx) { s with v_found := x21 })) fun s =>
  seqO (whileO lc__law_write_1 lp__law_write_0 FUEL s) fun s =>
  seqO ((some s.v_found).bind fun x94 => some (Out.rt x94)) fun s =>
  some (Out.nx (ρ := Tx) s)
def F__law_write (v_number : Int) (v_base : Int) : Option Tx := outF none (fb__law_write (⟨v_number, v_base, ⟨[]⟩⟩ : S__law_write))
@[reducible] def sa__law_write (a : Int × Int × Unit) : Sl := [some (Mo.a, enc a.1), some (Mo.a, enc a.2.1), none]
@[reducible] def in__law_write (a : Int × Int × Unit) : S__law_write := ⟨a.1, a.2.1, ⟨[]⟩⟩
abbrev N__law_write : List Str := ["number", "base", "found"]
abbrev s__law_write : Stmt := topS 28
theorem sc__law_write : FnScope N__law_write ["number", "base"] (defScope s__law_write) := ⟨rfl, rfl, rfl, by decide +kernel, rfl, by decide +kernel, by decide +kernel⟩
theorem ok__law_write (T : Top K mg) : FnOk P w K mg base CX0 2 T.a__law_write T.d__law_write ["number", "base"] (spF K N__law_write 2 sa__law_write .a (fun a => F__law_write a.1 a.2.1)) := by
  have nd := sc__law_write.nd
  refine fn_v (slE := sl__law_write_1) (fb := fun a => fb__law_write (in__law_write a)) none T.F__law_write sc__law_write rfl (fun _ h => nomatch h) (.inl rfl) (fun _ => rfl) fun cdv A outer s H E hr => ?_
  exact (bv_wk (sl'' := sl__law_write_1) (h := in__law_write) (fun _ => Wk.refl _)
  (bv_cons (sl'' := sl__law_write_0) (sv_set (i := 2) (fun (s : S__law_write) t => { s with v_found := t }) (fun _ _ => rfl) nd (pv_str []))
  (bv_cons (sl'' := sl__law_write_0) (sv_while (sl := sl__law_write_0) FUEL PassesOwn.never (PBw.pb (pb_or (pb_cmp c_gt (PV.ab (pv_var (i := 0) (fun s : S__law_write => s.v_number) (fun _ => rfl))) (PV.ab pv_int)) (pb_or1 (pb_cmp c_eqS (PV.ab (pv_var (i := 2) (fun s : S__law_write => s.v_found) (fun _ => rfl))) (PV.ab (pv_str []))))))
  (bv_cons (sl'' := sl__law_write_0) (sv_set (i := 2) (fun (s : S__law_write) t => { s with v_found := t }) (fun _ _ => rfl) nd (pv_catS (PV.ab (pv_ixS (PV.ab (pv_call0 (F := fun _ => F__law_signs) (ok__law_signs T) (hr.mono (by decide)) (by rfl) T.m__law_signs T.F__law_signs.kp T.b__law_signs ⟨0, rfl, rfl⟩)) (PV.ab (pv_mod (PV.ab (pv_int1 (by rfl) T.z_int (PV.ab (pv_var (i := 0) (fun s : S__law_write => s.v_number) (fun _ => rfl))))) (PV.ab (pv_var (i := 1) (fun s : S__law_write => s.v_base) (fun _ => rfl))))))) (PV.ab (pv_var (i := 2) (fun s : S__law_write => s.v_found) (fun _ => rfl)))))
  (bv_cons (sl'' := sl__law_write_0) (sv_set (i := 0) (fun (s : S__law_write) t => { s with v_number := t }) (fun _ _ => rfl) nd (pv_div (PV.ab (pv_var (i := 0) (fun s : S__law_write => s.v_number) (fun _ => rfl))) (PV.ab (pv_var (i := 1) (fun s : S__law_write => s.v_base) (fun _ => rfl)))))
  (bv_nil (h := fun (s : S__law_write) => (s : S__law_write)) (fun _ => (.s (.s (.s .nil))))))))
  (bv_cons (sl'' := sl__law_write_1) (sv_ret (pv_var (i := 2) (fun s : S__law_write => s.v_found) (fun _ => rfl)))
  (bv_nil (sl := sl__law_write_1) (h := fun s => s) (fun _ => Wk.refl _))))))
/-! ## _law_zeros -/
structure S__law_zeros where
  mk ::
  v_number : Int
  v_base : Int
  v_text : Tx
  v_found : Int
@[reducible] def sl__law_zeros_0 (s : S__law_zeros) : Sl := (fun s : S__law_zeros => ([some (Mo.a, enc s.v_number), some (Mo.a, enc s.v_base), some (Mo.a, enc s.v_text), some (Mo.a, enc s.v_found)] : Sl)) s
@[reducible] def sl__law_zeros_1 (s : S__law_zeros) : Sl := (fun s : S__law_zeros => ([some (Mo.a, enc s.v_number), some (Mo.a, enc s.v_base), none, none] : Sl)) s
@[reducible] def sl__law_zeros_2 (s : S__law_zeros) : Sl := (fun s : S__law_zeros => ([some (Mo.a, enc s.v_number), some (Mo.a, enc s.v_base), some (Mo.a, enc s.v_text), none] : Sl)) s
def lp__law_zeros_0 (s : S__law_zeros) : Option (Out S__law_zeros Int) :=
  seqO (((some s.v_found).bind fun x81 => (some (1 : Int)).bind fun x82 => some (x81 + x82)).bind fun x83 => some (Out.nx (ρ := Int) { s with v_found := x83 })) fun s =>
  some (Out.nx (ρ := Int) s)
def lc__law_zeros_1 (s : S__law_zeros) : Option Bool :=
  ((some s.v_text).bind fun x71 => ((((some s.v_text).bind fun x66 => if x66.cs.length ≤ sizeLine then some (x66.cs.length : Int) else none).bind fun x67 => (some (1 : Int)).bind fun x68 => some (x67 - x68)).bind fun x69 => (some s.v_found).bind fun x70 => some (x69 - x70)).bind fun x72 => sIx x71 x72).bind fun x73 => (some (⟨[48]⟩ : Tx)).bind fun x74 => some (decide (x73 = x74))
def fb__law_zeros (s : S__law_zeros) : Option (Out S__law_zeros Int) :=
  seqO ((((some s.v_number).bind fun x33 => ((some s.v_base).bind fun x34 => (some ()).bind fun x35 => some (x34, x35)).bind fun x36 => some (x33, x36)).bind fun x37 => F__law_write x37.1 x37.2.1).bind fun x38 => some (Out.nx (ρ := Int) { s with v_text := x38 })) fun s =>
  seqO ((some (0 : Int)).bind fun x41 => some (Out.nx (ρ := Int) { s with v_found := x41 })) fun s =>
  seqO (whileO lc__law_zeros_1 lp__law_zeros_0 FUEL s) fun s =>
  seqO ((some s.v_found).bind fun x86 => some (Out.rt x86)) fun s =>
  some (Out.nx (ρ := Int) s)
def F__law_zeros (v_number : Int) (v_base : Int) : Option Int := outF none (fb__law_zeros (⟨v_number, v_base, ⟨[]⟩, 0⟩ : S__law_zeros))
@[reducible] def sa__law_zeros (a : Int × Int × Unit) : Sl := [some (Mo.a, enc a.1), some (Mo.a, enc a.2.1), none, none]
@[reducible] def in__law_zeros (a : Int × Int × Unit) : S__law_zeros := ⟨a.1, a.2.1, ⟨[]⟩, 0⟩
abbrev N__law_zeros : List Str := ["number", "base", "text", "found"]
abbrev s__law_zeros : Stmt := topS 29
theorem sc__law_zeros : FnScope N__law_zeros ["number", "base"] (defScope s__law_zeros) := ⟨rfl, rfl, rfl, by decide +kernel, rfl, by decide +kernel, by decide +kernel⟩
theorem ok__law_zeros (T : Top K mg) : FnOk P w K mg base CX0 3 T.a__law_zeros T.d__law_zeros ["number", "base"] (spF K N__law_zeros 2 sa__law_zeros .a (fun a => F__law_zeros a.1 a.2.1)) := by
  have nd := sc__law_zeros.nd
  refine fn_v (slE := sl__law_zeros_1) (fb := fun a => fb__law_zeros (in__law_zeros a)) none T.F__law_zeros sc__law_zeros rfl (fun _ h => nomatch h) (.inl rfl) (fun _ => rfl) fun cdv A outer s H E hr => ?_
  exact (bv_wk (sl'' := sl__law_zeros_1) (h := in__law_zeros) (fun _ => Wk.refl _)
  (bv_cons (sl'' := sl__law_zeros_2) (sv_set (i := 2) (fun (s : S__law_zeros) t => { s with v_text := t }) (fun _ _ => rfl) nd (pv_calla (ok__law_write T) (hr.mono (by decide)) (by rfl) T.m__law_write T.F__law_write.kp T.b__law_write (av_a (pv_var (i := 0) (fun s : S__law_zeros => s.v_number) (fun _ => rfl)) (av_a (pv_var (i := 1) (fun s : S__law_zeros => s.v_base) (fun _ => rfl)) av_nil)) (fun _ => ⟨1, rfl, rfl⟩)))
  (bv_cons (sl'' := sl__law_zeros_0) (sv_set (i := 3) (fun (s : S__law_zeros) t => { s with v_found := t }) (fun _ _ => rfl) nd pv_int)
  (bv_cons (sl'' := sl__law_zeros_0) (sv_while (sl := sl__law_zeros_0) FUEL PassesOwn.never (pb_cmp c_eqS (PV.ab (pv_ixS (PV.ab (pv_var (i := 2) (fun s : S__law_zeros => s.v_text) (fun _ => rfl))) (PV.ab (pv_sub (PV.ab (pv_sub (PV.ab (pv_lenS (by rfl) T.z_len (PV.ab (pv_var (i := 2) (fun s : S__law_zeros => s.v_text) (fun _ => rfl))))) (PV.ab pv_int))) (PV.ab (pv_var (i := 3) (fun s : S__law_zeros => s.v_found) (fun _ => rfl))))))) (PV.ab (pv_str [48])))
  (bv_cons (sl'' := sl__law_zeros_0) (sv_set (i := 3) (fun (s : S__law_zeros) t => { s with v_found := t }) (fun _ _ => rfl) nd (pv_add (PV.ab (pv_var (i := 3) (fun s : S__law_zeros => s.v_found) (fun _ => rfl))) (PV.ab pv_int)))
  (bv_nil (h := fun (s : S__law_zeros) => (s : S__law_zeros)) (fun _ => (.s (.s (.s (.s .nil))))))))
  (bv_cons (sl'' := sl__law_zeros_1) (sv_ret (pv_var (i := 3) (fun s : S__law_zeros => s.v_found) (fun _ => rfl)))
  (bv_nil (sl := sl__law_zeros_1) (h := fun s => s) (fun _ => Wk.refl _)))))))
/-! ## zeros_of_product -/
structure S_zeros_of_product where
  mk ::
  v_number : Int
  v_base : Int
@[reducible] def sl_zeros_of_product_0 (s : S_zeros_of_product) : Sl := (fun s : S_zeros_of_product => ([some (Mo.a, enc s.v_number), some (Mo.a, enc s.v_base)] : Sl)) s
def fb_zeros_of_product (s : S_zeros_of_product) : Option (Out S_zeros_of_product Int) :=
  seqO ((((some s.v_base).bind fun x54 => ((((some s.v_number).bind fun x49 => (some (0 : Int)).bind fun x50 => (some (1000000 : Int)).bind fun x51 => some (T3.mk x49 x50 x51)).bind fun x52 => (some ([] : List (T3 Int Int Int))).bind fun x53 => some (x52 :: x53)).bind fun x55 => (some ()).bind fun x56 => some (x55, x56)).bind fun x57 => some (x54, x57)).bind fun x58 => F_check_numbers x58.1 x58.2.1).bind fun _ => some (Out.nx (ρ := Int) s)) fun s =>
  seqO ((((some s.v_number).bind fun x71 => ((some s.v_base).bind fun x72 => (some ()).bind fun x73 => some (x72, x73)).bind fun x74 => some (x71, x74)).bind fun x75 => F_product_zeros x75.1 x75.2.1).bind fun x76 => some (Out.rt x76)) fun s =>
  some (Out.nx (ρ := Int) s)
def F_zeros_of_product (v_number : Int) (v_base : Int) : Option Int := outF none (fb_zeros_of_product (⟨v_number, v_base⟩ : S_zeros_of_product))
@[reducible] def sa_zeros_of_product (a : Int × Int × Unit) : Sl := [some (Mo.a, enc a.1), some (Mo.a, enc a.2.1)]
@[reducible] def in_zeros_of_product (a : Int × Int × Unit) : S_zeros_of_product := ⟨a.1, a.2.1⟩
abbrev N_zeros_of_product : List Str := ["number", "base"]
abbrev s_zeros_of_product : Stmt := topS 20
theorem sc_zeros_of_product : FnScope N_zeros_of_product ["number", "base"] (defScope s_zeros_of_product) := ⟨rfl, rfl, rfl, by decide +kernel, rfl, by decide +kernel, by decide +kernel⟩
theorem ok_zeros_of_product (T : Top K mg) : FnOk P w K mg base CX0 3 T.a_zeros_of_product T.d_zeros_of_product ["number", "base"] (spF K N_zeros_of_product 2 sa_zeros_of_product .a (fun a => F_zeros_of_product a.1 a.2.1)) := by
  have nd := sc_zeros_of_product.nd
  refine fn_v (slE := sl_zeros_of_product_0) (fb := fun a => fb_zeros_of_product (in_zeros_of_product a)) none T.F_zeros_of_product sc_zeros_of_product rfl (fun _ h => nomatch h) (.inl rfl) (fun _ => rfl) fun cdv A outer s H E hr => ?_
  exact (bv_wk (sl'' := sl_zeros_of_product_0) (h := in_zeros_of_product) (fun _ => Wk.refl _)
  (bv_cons (sl'' := sl_zeros_of_product_0) (sv_expr (pv_calla (ok_check_numbers T) (hr.mono (by decide)) (by rfl) T.m_check_numbers T.F_check_numbers.kp T.b_check_numbers (av_a (pv_var (i := 1) (fun s : S_zeros_of_product => s.v_base) (fun _ => rfl)) (av_b (PV.fb (pv_lst (pal_cons (pv_tup3 (pv_var (i := 0) (fun s : S_zeros_of_product => s.v_number) (fun _ => rfl)) pv_int (pv_gint (i := 1000000) (by rfl) T.c_MOST_NUMBER.choose_spec ⟨_, rfl⟩)) (pal_nil (τ := (T3 Int Int Int)))))) av_nil)) (fun _ => ⟨3, rfl, rfl⟩)))
  (bv_cons (sl'' := sl_zeros_of_product_0) (sv_ret (pv_calla (ok_product_zeros T) (hr.mono (by decide)) (by rfl) T.m_product_zeros T.F_product_zeros.kp T.b_product_zeros (av_a (pv_var (i := 0) (fun s : S_zeros_of_product => s.v_number) (fun _ => rfl)) (av_a (pv_var (i := 1) (fun s : S_zeros_of_product => s.v_base) (fun _ => rfl)) av_nil)) (fun _ => ⟨2, rfl, rfl⟩)))
  (bv_nil (sl := sl_zeros_of_product_0) (h := fun s => s) (fun _ => Wk.refl _)))))
/-! ## last_of_product -/
structure S_last_of_product where
  mk ::
  v_number : Int
  v_base : Int
  v_found : Int
  v_one : Int
@[reducible] def sl_last_of_product_0 (s : S_last_of_product) : Sl := (fun s : S_last_of_product => ([some (Mo.a, enc s.v_number), some (Mo.a, enc s.v_base), some (Mo.a, enc s.v_found), some (Mo.a, enc s.v_one)] : Sl)) s
@[reducible] def sl_last_of_product_1 (s : S_last_of_product) : Sl := (fun s : S_last_of_product => ([some (Mo.a, enc s.v_number), some (Mo.a, enc s.v_base), some (Mo.a, enc s.v_found), none] : Sl)) s
@[reducible] def sl_last_of_product_2 (s : S_last_of_product) : Sl := (fun s : S_last_of_product => ([some (Mo.a, enc s.v_number), some (Mo.a, enc s.v_base), none, none] : Sl)) s
def lp_last_of_product_0 (s : S_last_of_product) : Option (Out S_last_of_product Tx) :=
  seqO (((some s.v_found).bind fun x145 => (some s.v_base).bind fun x146 => iDiv x145 x146).bind fun x147 => some (Out.nx (ρ := Tx) { s with v_found := x147 })) fun s =>
  some (Out.nx (ρ := Tx) s)
def lc_last_of_product_1 (s : S_last_of_product) : Option Bool :=
  ((some s.v_found).bind fun x135 => (some s.v_base).bind fun x136 => iMod x135 x136).bind fun x137 => (some (0 : Int)).bind fun x138 => some (decide (x137 = x138))
def lp_last_of_product_2 (s : S_last_of_product) : Option (Out S_last_of_product Tx) :=
  seqO (((some s.v_found).bind fun x118 => (some s.v_one).bind fun x119 => iMul x118 x119).bind fun x120 => some (Out.nx (ρ := Tx) { s with v_found := x120 })) fun s =>
  seqO (whileO lc_last_of_product_1 lp_last_of_product_0 FUEL s) fun s =>
  some (Out.nx (ρ := Tx) { s with v_one := 0 })
def fb_last_of_product (s : S_last_of_product) : Option (Out S_last_of_product Tx) :=
  seqO ((((some s.v_base).bind fun x68 => ((((some s.v_number).bind fun x63 => (some (0 : Int)).bind fun x64 => (some (300 : Int)).bind fun x65 => some (T3.mk x63 x64 x65)).bind fun x66 => (some ([] : List (T3 Int Int Int))).bind fun x67 => some (x66 :: x67)).bind fun x69 => (some ()).bind fun x70 => some (x69, x70)).bind fun x71 => some (x68, x71)).bind fun x72 => F_check_numbers x72.1 x72.2.1).bind fun _ => some (Out.nx (ρ := Tx) s)) fun s =>
  seqO ((some (1 : Int)).bind fun x75 => some (Out.nx (ρ := Tx) { s with v_found := x75 })) fun s =>
  seqO (((some (2 : Int)).bind fun x110 => ((some s.v_number).bind fun x108 => (some (1 : Int)).bind fun x109 => some (x108 + x109)).bind fun x111 => rng2 x110 x111).bind fun x148 => forO (fun (s : S_last_of_product) (t : Int) => { s with v_one := t }) lp_last_of_product_2 x148 s) fun s =>
  seqO (((some (⟨c_DIGITS_l⟩ : Tx)).bind fun x161 => ((some s.v_found).bind fun x159 => (some s.v_base).bind fun x160 => iMod x159 x160).bind fun x162 => sIx x161 x162).bind fun x163 => some (Out.rt x163)) fun s =>
  some (Out.nx (ρ := Tx) s)
def F_last_of_product (v_number : Int) (v_base : Int) : Option Tx := outF none (fb_last_of_product (⟨v_number, v_base, 0, 0⟩ : S_last_of_product))
@[reducible] def sa_last_of_product (a : Int × Int × Unit) : Sl := [some (Mo.a, enc a.1), some (Mo.a, enc a.2.1), none, none]
@[reducible] def in_last_of_product (a : Int × Int × Unit) : S_last_of_product := ⟨a.1, a.2.1, 0, 0⟩
abbrev N_last_of_product : List Str := ["number", "base", "found", "one"]
abbrev s_last_of_product : Stmt := topS 23
theorem sc_last_of_product : FnScope N_last_of_product ["number", "base"] (defScope s_last_of_product) := ⟨rfl, rfl, rfl, by decide +kernel, rfl, by decide +kernel, by decide +kernel⟩
theorem ok_last_of_product (T : Top K mg) : FnOk P w K mg base CX0 3 T.a_last_of_product T.d_last_of_product ["number", "base"] (spF K N_last_of_product 2 sa_last_of_product .a (fun a => F_last_of_product a.1 a.2.1)) := by
  have nd := sc_last_of_product.nd
  refine fn_v (slE := sl_last_of_product_2) (fb := fun a => fb_last_of_product (in_last_of_product a)) none T.F_last_of_product sc_last_of_product rfl (fun _ h => nomatch h) (.inl rfl) (fun _ => rfl) fun cdv A outer s H E hr => ?_
  exact (bv_wk (sl'' := sl_last_of_product_2) (h := in_last_of_product) (fun _ => Wk.refl _)
  (bv_cons (sl'' := sl_last_of_product_2) (sv_expr (pv_calla (ok_check_numbers T) (hr.mono (by decide)) (by rfl) T.m_check_numbers T.F_check_numbers.kp T.b_check_numbers (av_a (pv_var (i := 1) (fun s : S_last_of_product => s.v_base) (fun _ => rfl)) (av_b (PV.fb (pv_lst (pal_cons (pv_tup3 (pv_var (i := 0) (fun s : S_last_of_product => s.v_number) (fun _ => rfl)) pv_int (pv_gint (i := 300) (by rfl) T.c_MOST_PRODUCT.choose_spec ⟨_, rfl⟩)) (pal_nil (τ := (T3 Int Int Int)))))) av_nil)) (fun _ => ⟨3, rfl, rfl⟩)))
  (bv_cons (sl'' := sl_last_of_product_1) (sv_set (i := 2) (fun (s : S_last_of_product) t => { s with v_found := t }) (fun _ _ => rfl) nd pv_int)
  (bv_cons (sl'' := sl_last_of_product_1) (sv_for (sl := sl_last_of_product_1) PassesOwn.never (piv_range2 (by rfl) T.z_range (PV.ab pv_int) (PV.ab (pv_add (PV.ab (pv_var (i := 0) (fun s : S_last_of_product => s.v_number) (fun _ => rfl))) (PV.ab pv_int)))) (gv_name (i := 3) (slb := sl_last_of_product_0) (set := (fun (s : S_last_of_product) (t : Int) => { s with v_one := t })) (fun _ _ => rfl) nd)
  (bv_cons (sl'' := sl_last_of_product_0) (sv_set (i := 2) (fun (s : S_last_of_product) t => { s with v_found := t }) (fun _ _ => rfl) nd (pv_mul (PV.ab (pv_var (i := 2) (fun s : S_last_of_product => s.v_found) (fun _ => rfl))) (PV.ab (pv_var (i := 3) (fun s : S_last_of_product => s.v_one) (fun _ => rfl)))))
  (bv_cons (sl'' := sl_last_of_product_0) (sv_while (sl := sl_last_of_product_0) FUEL PassesOwn.never (pb_cmp c_eqS (PV.ab (pv_mod (PV.ab (pv_var (i := 2) (fun s : S_last_of_product => s.v_found) (fun _ => rfl))) (PV.ab (pv_var (i := 1) (fun s : S_last_of_product => s.v_base) (fun _ => rfl))))) (PV.ab pv_int))
  (bv_cons (sl'' := sl_last_of_product_0) (sv_set (i := 2) (fun (s : S_last_of_product) t => { s with v_found := t }) (fun _ _ => rfl) nd (pv_div (PV.ab (pv_var (i := 2) (fun s : S_last_of_product => s.v_found) (fun _ => rfl))) (PV.ab (pv_var (i := 1) (fun s : S_last_of_product => s.v_base) (fun _ => rfl)))))
  (bv_nil (h := fun (s : S_last_of_product) => (s : S_last_of_product)) (fun _ => (.s (.s (.s (.s .nil))))))))
  (bv_nil (h := fun (s : S_last_of_product) => ({ s with v_one := 0 } : S_last_of_product)) (fun _ => (.s (.s (.s (.d .nil)))))))))
  (bv_cons (sl'' := sl_last_of_product_2) (sv_ret (pv_ixS (PV.ab (pv_gstr c_DIGITS_l (by rfl) T.c_DIGITS.choose_spec ⟨_, rfl⟩)) (PV.ab (pv_mod (PV.ab (pv_var (i := 2) (fun s : S_last_of_product => s.v_found) (fun _ => rfl))) (PV.ab (pv_var (i := 1) (fun s : S_last_of_product => s.v_base) (fun _ => rfl)))))))
  (bv_nil (sl := sl_last_of_product_2) (h := fun s => s) (fun _ => Wk.refl _)))))))
/-! ## _law_primes -/
structure S__law_primes where
  mk ::
  v_base : Int
  v_found : (List (T2 Int Int))
  v_left : Int
  v_prime : Int
  v_many : Int
@[reducible] def sl__law_primes_0 (s : S__law_primes) : Sl := (fun s : S__law_primes => ([some (Mo.a, enc s.v_base), some (Mo.o, enc s.v_found), some (Mo.a, enc s.v_left), some (Mo.a, enc s.v_prime), some (Mo.a, enc s.v_many)] : Sl)) s
@[reducible] def sl__law_primes_1 (s : S__law_primes) : Sl := (fun s : S__law_primes => ([some (Mo.a, enc s.v_base), some (Mo.o, enc s.v_found), some (Mo.a, enc s.v_left), some (Mo.a, enc s.v_prime), none] : Sl)) s
@[reducible] def sl__law_primes_2 (s : S__law_primes) : Sl := (fun s : S__law_primes => ([some (Mo.a, enc s.v_base), none, none, none, none] : Sl)) s
def lp__law_primes_0 (s : S__law_primes) : Option (Out S__law_primes (List (T2 Int Int))) :=
  seqO (((some s.v_left).bind fun x126 => (some s.v_prime).bind fun x127 => iDiv x126 x127).bind fun x130 => ((some s.v_many).bind fun x128 => (some (1 : Int)).bind fun x129 => some (x128 + x129)).bind fun x131 => some (Out.nx (ρ := (List (T2 Int Int))) { s with v_left := x130, v_many := x131 })) fun s =>
  some (Out.nx (ρ := (List (T2 Int Int))) s)
def lc__law_primes_1 (s : S__law_primes) : Option Bool :=
  (((some s.v_left).bind fun x109 => some x109).bind fun x110 => (some s.v_prime).bind fun x111 => iMod x110 x111).bind fun x112 => (some (0 : Int)).bind fun x113 => some (decide (x112 = x113))
def lp__law_primes_2 (s : S__law_primes) : Option (Out S__law_primes (List (T2 Int Int))) :=
  seqO ((some (0 : Int)).bind fun x86 => some (Out.nx (ρ := (List (T2 Int Int))) { s with v_many := x86 })) fun s =>
  seqO (whileO lc__law_primes_1 lp__law_primes_0 FUEL s) fun s =>
  seqO (((some s.v_many).bind fun x140 => (some (0 : Int)).bind fun x141 => some (decide (x140 > x141))).bind fun x154 => if x154 = true then
  (seqO (((some s.v_prime).bind fun x150 => (some s.v_many).bind fun x151 => some (T2.mk x150 x151)).bind fun x152 => (push s.v_found x152).bind fun x153 => some (Out.nx (ρ := (List (T2 Int Int))) { s with v_found := x153 })) fun s =>
  some (Out.nx (ρ := (List (T2 Int Int))) s))
  else some (Out.nx (ρ := (List (T2 Int Int))) s)) fun s =>
  seqO (((some s.v_prime).bind fun x161 => (some (1 : Int)).bind fun x162 => some (x161 + x162)).bind fun x163 => some (Out.nx (ρ := (List (T2 Int Int))) { s with v_prime := x163 })) fun s =>
  some (Out.nx (ρ := (List (T2 Int Int))) { s with v_many := 0 })
def lc__law_primes_3 (s : S__law_primes) : Option Bool :=
  (some s.v_left).bind fun x82 => (some (1 : Int)).bind fun x83 => some (decide (x82 > x83))
def fb__law_primes (s : S__law_primes) : Option (Out S__law_primes (List (T2 Int Int))) :=
  seqO ((some ([] : List (T2 Int Int))).bind fun x33 => (some s.v_base).bind fun x34 => (some (2 : Int)).bind fun x35 => some (Out.nx (ρ := (List (T2 Int Int))) { s with v_found := x33, v_left := x34, v_prime := x35 })) fun s =>
  seqO (whileO lc__law_primes_3 lp__law_primes_2 FUEL s) fun s =>
  seqO (some (Out.rt s.v_found)) fun s =>
  some (Out.nx (ρ := (List (T2 Int Int))) s)
def F__law_primes (v_base : Int) : Option (List (T2 Int Int)) := outF none (fb__law_primes (⟨v_base, [], 0, 0, 0⟩ : S__law_primes))
@[reducible] def sa__law_primes (a : Int × Unit) : Sl := [some (Mo.a, enc a.1), none, none, none, none]
@[reducible] def in__law_primes (a : Int × Unit) : S__law_primes := ⟨a.1, [], 0, 0, 0⟩
abbrev N__law_primes : List Str := ["base", "found", "left", "prime", "many"]
abbrev s__law_primes : Stmt := topS 30
theorem sc__law_primes : FnScope N__law_primes ["base"] (defScope s__law_primes) := ⟨rfl, rfl, rfl, by decide +kernel, rfl, by decide +kernel, by decide +kernel⟩
theorem ok__law_primes (T : Top K mg) : FnOk P w K mg base CX0 1 T.a__law_primes T.d__law_primes ["base"] (spF K N__law_primes 1 sa__law_primes .f (fun a => F__law_primes a.1)) := by
  have nd := sc__law_primes.nd
  refine fn_v (slE := sl__law_primes_2) (fb := fun a => fb__law_primes (in__law_primes a)) none T.F__law_primes sc__law_primes rfl (fun _ h => nomatch h) (.inr ⟨rfl, rfl⟩) (fun _ => rfl) fun cdv A outer s H E hr => ?_
  exact (bv_wk (sl'' := sl__law_primes_2) (h := in__law_primes) (fun _ => Wk.refl _)
  (bv_cons (sl'' := sl__law_primes_1) (sv_par3_oaa (i := 1) (j := 2) (l := 3) (fun (s : S__law_primes) x33 x34 x35 => { s with v_found := x33, v_left := x34, v_prime := x35 }) (fun _ _ _ _ => rfl) nd (pv_lst (pal_nil (τ := (T2 Int Int)))) (pv_var (i := 0) (fun s : S__law_primes => s.v_base) (fun _ => rfl)) pv_int)
  (bv_cons (sl'' := sl__law_primes_1) (sv_while (sl := sl__law_primes_1) FUEL PassesOwn.never (pb_cmp c_gt (PV.ab (pv_var (i := 2) (fun s : S__law_primes => s.v_left) (fun _ => rfl))) (PV.ab pv_int))
  (bv_cons (sl'' := sl__law_primes_0) (sv_set (i := 4) (fun (s : S__law_primes) t => { s with v_many := t }) (fun _ _ => rfl) nd pv_int)
  (bv_cons (sl'' := sl__law_primes_0) (sv_while (sl := sl__law_primes_0) FUEL PassesOwn.never (pb_cmp c_eqS (PV.ab (pv_mod (PV.ab (pv_int1 (by rfl) T.z_int (PV.ab (pv_var (i := 2) (fun s : S__law_primes => s.v_left) (fun _ => rfl))))) (PV.ab (pv_var (i := 3) (fun s : S__law_primes => s.v_prime) (fun _ => rfl))))) (PV.ab pv_int))
  (bv_cons (sl'' := sl__law_primes_0) (sv_par (i := 2) (j := 4) (fun (s : S__law_primes) x130 x131 => { s with v_left := x130, v_many := x131 }) (fun _ _ _ => rfl) nd (pv_div (PV.ab (pv_var (i := 2) (fun s : S__law_primes => s.v_left) (fun _ => rfl))) (PV.ab (pv_var (i := 3) (fun s : S__law_primes => s.v_prime) (fun _ => rfl)))) (pv_add (PV.ab (pv_var (i := 4) (fun s : S__law_primes => s.v_many) (fun _ => rfl))) (PV.ab pv_int)))
  (bv_nil (h := fun (s : S__law_primes) => (s : S__law_primes)) (fun _ => (.s (.s (.s (.s (.s .nil)))))))))
  (bv_cons (sl'' := sl__law_primes_0) (sv_if (pb_cmp c_gt (PV.ab (pv_var (i := 4) (fun s : S__law_primes => s.v_many) (fun _ => rfl))) (PV.ab pv_int))
  (bv_cons (sl'' := sl__law_primes_0) (sv_app (i := 1) (fun s : S__law_primes => s.v_found) (fun s t => { s with v_found := t }) (fun _ => rfl) (fun _ _ => rfl) (pv_tup2 (pv_var (i := 3) (fun s : S__law_primes => s.v_prime) (fun _ => rfl)) (pv_var (i := 4) (fun s : S__law_primes => s.v_many) (fun _ => rfl))))
  (bv_nil (h := fun (s : S__law_primes) => (s : S__law_primes)) (fun _ => (.s (.s (.s (.s (.s .nil))))))))
  (bv_nil (h := fun (s : S__law_primes) => (s : S__law_primes)) (fun _ => (.s (.s (.s (.s (.s .nil))))))))
  (bv_cons (sl'' := sl__law_primes_0) (sv_set (i := 3) (fun (s : S__law_primes) t => { s with v_prime := t }) (fun _ _ => rfl) nd (pv_add (PV.ab (pv_var (i := 3) (fun s : S__law_primes => s.v_prime) (fun _ => rfl))) (PV.ab pv_int)))
  (bv_nil (h := fun (s : S__law_primes) => ({ s with v_many := 0 } : S__law_primes)) (fun _ => (.s (.s (.s (.s (.d .nil))))))))))))
  (bv_cons (sl'' := sl__law_primes_2) (sv_reto (i := 1) (fun s : S__law_primes => s.v_found) (fun _ => rfl))
  (bv_nil (sl := sl__law_primes_2) (h := fun s => s) (fun _ => Wk.refl _))))))
/-! ## _law_due -/
structure S__law_due where
  mk ::
  v_number : Int
  v_base : Int
  v_rows : (List Int)
  v_prime : Int
  v_many : Int
  v_whole : Int
  v_power : Int
@[reducible] def sl__law_due_0 (s : S__law_due) : Sl := (fun s : S__law_due => ([some (Mo.a, enc s.v_number), some (Mo.a, enc s.v_base), some (Mo.o, enc s.v_rows), some (Mo.a, enc s.v_prime), some (Mo.a, enc s.v_many), some (Mo.a, enc s.v_whole), some (Mo.a, enc s.v_power)] : Sl)) s
@[reducible] def sl__law_due_1 (s : S__law_due) : Sl := (fun s : S__law_due => ([some (Mo.a, enc s.v_number), some (Mo.a, enc s.v_base), some (Mo.o, enc s.v_rows), some (Mo.a, enc s.v_prime), none, none, none] : Sl)) s
@[reducible] def sl__law_due_2 (s : S__law_due) : Sl := (fun s : S__law_due => ([some (Mo.a, enc s.v_number), some (Mo.a, enc s.v_base), some (Mo.o, enc s.v_rows), some (Mo.a, enc s.v_prime), some (Mo.a, enc s.v_many), none, none] : Sl)) s
@[reducible] def sl__law_due_3 (s : S__law_due) : Sl := (fun s : S__law_due => ([some (Mo.a, enc s.v_number), some (Mo.a, enc s.v_base), some (Mo.o, enc s.v_rows), none, none, none, none] : Sl)) s
@[reducible] def sl__law_due_4 (s : S__law_due) : Sl := (fun s : S__law_due => ([some (Mo.a, enc s.v_number), some (Mo.a, enc s.v_base), none, none, none, none, none] : Sl)) s
def lp__law_due_0 (s : S__law_due) : Option (Out S__law_due Int) :=
  seqO (((some s.v_whole).bind fun x116 => ((some s.v_number).bind fun x114 => (some s.v_power).bind fun x115 => iDiv x114 x115).bind fun x117 => some (x116 + x117)).bind fun x120 => ((some s.v_power).bind fun x118 => (some s.v_prime).bind fun x119 => iMul x118 x119).bind fun x121 => some (Out.nx (ρ := Int) { s with v_whole := x120, v_power := x121 })) fun s =>
  some (Out.nx (ρ := Int) s)
def lc__law_due_1 (s : S__law_due) : Option Bool :=
  (some s.v_power).bind fun x96 => (some s.v_number).bind fun x97 => some (decide (x96 ≤ x97))
def lp__law_due_2 (s : S__law_due) : Option (Out S__law_due Int) :=
  seqO ((some (0 : Int)).bind fun x74 => (some s.v_prime).bind fun x75 => some (Out.nx (ρ := Int) { s with v_whole := x74, v_power := x75 })) fun s =>
  seqO (whileO lc__law_due_1 lp__law_due_0 FUEL s) fun s =>
  seqO (((some s.v_whole).bind fun x130 => (some s.v_many).bind fun x131 => iDiv x130 x131).bind fun x132 => (push s.v_rows x132).bind fun x133 => some (Out.nx (ρ := Int) { s with v_rows := x133 })) fun s =>
  some (Out.nx (ρ := Int) { s with v_prime := 0, v_many := 0, v_whole := 0, v_power := 0 })
def fb__law_due (s : S__law_due) : Option (Out S__law_due Int) :=
  seqO ((some ([] : List Int)).bind fun x25 => some (Out.nx (ρ := Int) { s with v_rows := x25 })) fun s =>
  seqO ((((some s.v_base).bind fun x67 => (some ()).bind fun x68 => some (x67, x68)).bind fun x69 => F__law_primes x69.1).bind fun x134 => forO (fun (s : S__law_due) (t : (T2 Int Int)) => { ({ s with v_prime := t.a }) with v_many := t.b }) lp__law_due_2 x134 s) fun s =>
  seqO (((some s.v_rows).bind fun x139 => least x139).bind fun x140 => some (Out.rt x140)) fun s =>
  some (Out.nx (ρ := Int) s)
def F__law_due (v_number : Int) (v_base : Int) : Option Int := outF none (fb__law_due (⟨v_number, v_base, [], 0, 0, 0, 0⟩ : S__law_due))
@[reducible] def sa__law_due (a : Int × Int × Unit) : Sl := [some (Mo.a, enc a.1), some (Mo.a, enc a.2.1), none, none, none, none, none]
@[reducible] def in__law_due (a : Int × Int × Unit) : S__law_due := ⟨a.1, a.2.1, [], 0, 0, 0, 0⟩
abbrev N__law_due : List Str := ["number", "base", "rows", "prime", "many", "whole", "power"]
abbrev s__law_due : Stmt := topS 31
theorem sc__law_due : FnScope N__law_due ["number", "base"] (defScope s__law_due) := ⟨rfl, rfl, rfl, by decide +kernel, rfl, by decide +kernel, by decide +kernel⟩
theorem ok__law_due (T : Top K mg) : FnOk P w K mg base CX0 2 T.a__law_due T.d__law_due ["number", "base"] (spF K N__law_due 2 sa__law_due .a (fun a => F__law_due a.1 a.2.1)) := by
  have nd := sc__law_due.nd
  refine fn_v (slE := sl__law_due_4) (fb := fun a => fb__law_due (in__law_due a)) none T.F__law_due sc__law_due rfl (fun _ h => nomatch h) (.inl rfl) (fun _ => rfl) fun cdv A outer s H E hr => ?_
  exact (bv_wk (sl'' := sl__law_due_4) (h := in__law_due) (fun _ => Wk.refl _)
  (bv_cons (sl'' := sl__law_due_3) (sv_own (i := 2) (fun (s : S__law_due) t => { s with v_rows := t }) (fun _ _ => rfl) nd (pv_lst (pal_nil (τ := Int))))
  (bv_cons (sl'' := sl__law_due_3) (sv_for (sl := sl__law_due_3) PassesOwn.never (piv_list (PV.fa (pv_callf (ok__law_primes T) (hr.mono (by decide)) (by rfl) T.m__law_primes T.F__law_primes.kp T.b__law_primes (av_a (pv_var (i := 1) (fun s : S__law_due => s.v_base) (fun _ => rfl)) av_nil) (fun _ => ⟨4, rfl, rfl⟩)))) (gv_tup (fun t : (T2 Int Int) => [enc t.a, enc t.b]) (fun _ => rfl) (fun _ => rfl) (gvs_cons (p1 := fun t : (T2 Int Int) => t.a) (p2 := fun t : (T2 Int Int) => t) (gv_name (i := 3) (slb := sl__law_due_1) (set := fun (s : S__law_due) (t : Int) => { s with v_prime := t }) (fun _ _ => rfl) nd) (gvs_cons (p1 := fun t : (T2 Int Int) => t.b) (p2 := fun t : (T2 Int Int) => t) (gv_name (i := 4) (slb := sl__law_due_2) (set := fun (s : S__law_due) (t : Int) => { s with v_many := t }) (fun _ _ => rfl) nd) gvs_nil)))
  (bv_cons (sl'' := sl__law_due_0) (sv_par (i := 5) (j := 6) (fun (s : S__law_due) x74 x75 => { s with v_whole := x74, v_power := x75 }) (fun _ _ _ => rfl) nd pv_int (pv_var (i := 3) (fun s : S__law_due => s.v_prime) (fun _ => rfl)))
  (bv_cons (sl'' := sl__law_due_0) (sv_while (sl := sl__law_due_0) FUEL PassesOwn.never (pb_cmp c_le (PV.ab (pv_var (i := 6) (fun s : S__law_due => s.v_power) (fun _ => rfl))) (PV.ab (pv_var (i := 0) (fun s : S__law_due => s.v_number) (fun _ => rfl))))
  (bv_cons (sl'' := sl__law_due_0) (sv_par (i := 5) (j := 6) (fun (s : S__law_due) x120 x121 => { s with v_whole := x120, v_power := x121 }) (fun _ _ _ => rfl) nd (pv_add (PV.ab (pv_var (i := 5) (fun s : S__law_due => s.v_whole) (fun _ => rfl))) (PV.ab (pv_div (PV.ab (pv_var (i := 0) (fun s : S__law_due => s.v_number) (fun _ => rfl))) (PV.ab (pv_var (i := 6) (fun s : S__law_due => s.v_power) (fun _ => rfl)))))) (pv_mul (PV.ab (pv_var (i := 6) (fun s : S__law_due => s.v_power) (fun _ => rfl))) (PV.ab (pv_var (i := 3) (fun s : S__law_due => s.v_prime) (fun _ => rfl)))))
  (bv_nil (h := fun (s : S__law_due) => (s : S__law_due)) (fun _ => (.s (.s (.s (.s (.s (.s (.s .nil)))))))))))
  (bv_cons (sl'' := sl__law_due_0) (sv_app (i := 2) (fun s : S__law_due => s.v_rows) (fun s t => { s with v_rows := t }) (fun _ => rfl) (fun _ _ => rfl) (pv_div (PV.ab (pv_var (i := 5) (fun s : S__law_due => s.v_whole) (fun _ => rfl))) (PV.ab (pv_var (i := 4) (fun s : S__law_due => s.v_many) (fun _ => rfl)))))
  (bv_nil (h := fun (s : S__law_due) => ({ s with v_prime := 0, v_many := 0, v_whole := 0, v_power := 0 } : S__law_due)) (fun _ => (.s (.s (.s (.d (.d (.d (.d .nil)))))))))))))
  (bv_cons (sl'' := sl__law_due_4) (sv_ret (pv_min1 (by rfl) T.z_min (pv_varo (i := 2) (fun s : S__law_due => s.v_rows) (fun _ => rfl))))
  (bv_nil (sl := sl__law_due_4) (h := fun s => s) (fun _ => Wk.refl _))))))
/-! ## zeros_of -/
structure S_zeros_of where
  mk ::
  v_number : Int
  v_base : Int
  v_found : Int
@[reducible] def sl_zeros_of_0 (s : S_zeros_of) : Sl := (fun s : S_zeros_of => ([some (Mo.a, enc s.v_number), some (Mo.a, enc s.v_base), some (Mo.a, enc s.v_found)] : Sl)) s
@[reducible] def sl_zeros_of_1 (s : S_zeros_of) : Sl := (fun s : S_zeros_of => ([some (Mo.a, enc s.v_number), some (Mo.a, enc s.v_base), none] : Sl)) s
def lp_zeros_of_0 (s : S_zeros_of) : Option (Out S_zeros_of Int) :=
  seqO (((some s.v_number).bind fun x46 => (some s.v_base).bind fun x47 => iDiv x46 x47).bind fun x48 => some (Out.nx (ρ := Int) { s with v_number := x48 })) fun s =>
  seqO (((some s.v_found).bind fun x55 => (some (1 : Int)).bind fun x56 => some (x55 + x56)).bind fun x57 => some (Out.nx (ρ := Int) { s with v_found := x57 })) fun s =>
  some (Out.nx (ρ := Int) s)
def lc_zeros_of_1 (s : S_zeros_of) : Option Bool :=
  ((some s.v_number).bind fun x36 => (some s.v_base).bind fun x37 => iMod x36 x37).bind fun x38 => (some (0 : Int)).bind fun x39 => some (decide (x38 = x39))
def fb_zeros_of (s : S_zeros_of) : Option (Out S_zeros_of Int) :=
  seqO ((some (0 : Int)).bind fun x15 => some (Out.nx (ρ := Int) { s with v_found := x15 })) fun s =>
  seqO (whileO lc_zeros_of_1 lp_zeros_of_0 FUEL s) fun s =>
  seqO ((some s.v_found).bind fun x60 => some (Out.rt x60)) fun s =>
  some (Out.nx (ρ := Int) s)
def F_zeros_of (v_number : Int) (v_base : Int) : Option Int := outF none (fb_zeros_of (⟨v_number, v_base, 0⟩ : S_zeros_of))
@[reducible] def sa_zeros_of (a : Int × Int × Unit) : Sl := [some (Mo.a, enc a.1), some (Mo.a, enc a.2.1), none]
@[reducible] def in_zeros_of (a : Int × Int × Unit) : S_zeros_of := ⟨a.1, a.2.1, 0⟩
abbrev N_zeros_of : List Str := ["number", "base", "found"]
abbrev s_zeros_of : Stmt := topS 16
theorem sc_zeros_of : FnScope N_zeros_of ["number", "base"] (defScope s_zeros_of) := ⟨rfl, rfl, rfl, by decide +kernel, rfl, by decide +kernel, by decide +kernel⟩
theorem ok_zeros_of (T : Top K mg) : FnOk P w K mg base CX0 1 T.a_zeros_of T.d_zeros_of ["number", "base"] (spF K N_zeros_of 2 sa_zeros_of .a (fun a => F_zeros_of a.1 a.2.1)) := by
  have nd := sc_zeros_of.nd
  refine fn_v (slE := sl_zeros_of_1) (fb := fun a => fb_zeros_of (in_zeros_of a)) none T.F_zeros_of sc_zeros_of rfl (fun _ h => nomatch h) (.inl rfl) (fun _ => rfl) fun cdv A outer s H E hr => ?_
  exact (bv_wk (sl'' := sl_zeros_of_1) (h := in_zeros_of) (fun _ => Wk.refl _)
  (bv_cons (sl'' := sl_zeros_of_0) (sv_set (i := 2) (fun (s : S_zeros_of) t => { s with v_found := t }) (fun _ _ => rfl) nd pv_int)
  (bv_cons (sl'' := sl_zeros_of_0) (sv_while (sl := sl_zeros_of_0) FUEL PassesOwn.never (pb_cmp c_eqS (PV.ab (pv_mod (PV.ab (pv_var (i := 0) (fun s : S_zeros_of => s.v_number) (fun _ => rfl))) (PV.ab (pv_var (i := 1) (fun s : S_zeros_of => s.v_base) (fun _ => rfl))))) (PV.ab pv_int))
  (bv_cons (sl'' := sl_zeros_of_0) (sv_set (i := 0) (fun (s : S_zeros_of) t => { s with v_number := t }) (fun _ _ => rfl) nd (pv_div (PV.ab (pv_var (i := 0) (fun s : S_zeros_of => s.v_number) (fun _ => rfl))) (PV.ab (pv_var (i := 1) (fun s : S_zeros_of => s.v_base) (fun _ => rfl)))))
  (bv_cons (sl'' := sl_zeros_of_0) (sv_set (i := 2) (fun (s : S_zeros_of) t => { s with v_found := t }) (fun _ _ => rfl) nd (pv_add (PV.ab (pv_var (i := 2) (fun s : S_zeros_of => s.v_found) (fun _ => rfl))) (PV.ab pv_int)))
  (bv_nil (h := fun (s : S_zeros_of) => (s : S_zeros_of)) (fun _ => (.s (.s (.s .nil))))))))
  (bv_cons (sl'' := sl_zeros_of_1) (sv_ret (pv_var (i := 2) (fun s : S_zeros_of => s.v_found) (fun _ => rfl)))
  (bv_nil (sl := sl_zeros_of_1) (h := fun s => s) (fun _ => Wk.refl _))))))
/-! ## zeros -/
structure S_zeros where
  mk ::
  v_number : Int
  v_base : Int
@[reducible] def sl_zeros_0 (s : S_zeros) : Sl := (fun s : S_zeros => ([some (Mo.a, enc s.v_number), some (Mo.a, enc s.v_base)] : Sl)) s
def fb_zeros (s : S_zeros) : Option (Out S_zeros Int) :=
  seqO ((((some s.v_base).bind fun x54 => ((((some s.v_number).bind fun x49 => (some (1 : Int)).bind fun x50 => (some (1000000 : Int)).bind fun x51 => some (T3.mk x49 x50 x51)).bind fun x52 => (some ([] : List (T3 Int Int Int))).bind fun x53 => some (x52 :: x53)).bind fun x55 => (some ()).bind fun x56 => some (x55, x56)).bind fun x57 => some (x54, x57)).bind fun x58 => F_check_numbers x58.1 x58.2.1).bind fun _ => some (Out.nx (ρ := Int) s)) fun s =>
  seqO ((((some s.v_number).bind fun x71 => ((some s.v_base).bind fun x72 => (some ()).bind fun x73 => some (x72, x73)).bind fun x74 => some (x71, x74)).bind fun x75 => F_zeros_of x75.1 x75.2.1).bind fun x76 => some (Out.rt x76)) fun s =>
  some (Out.nx (ρ := Int) s)
def F_zeros (v_number : Int) (v_base : Int) : Option Int := outF none (fb_zeros (⟨v_number, v_base⟩ : S_zeros))
@[reducible] def sa_zeros (a : Int × Int × Unit) : Sl := [some (Mo.a, enc a.1), some (Mo.a, enc a.2.1)]
@[reducible] def in_zeros (a : Int × Int × Unit) : S_zeros := ⟨a.1, a.2.1⟩
abbrev N_zeros : List Str := ["number", "base"]
abbrev s_zeros : Stmt := topS 17
theorem sc_zeros : FnScope N_zeros ["number", "base"] (defScope s_zeros) := ⟨rfl, rfl, rfl, by decide +kernel, rfl, by decide +kernel, by decide +kernel⟩
theorem ok_zeros (T : Top K mg) : FnOk P w K mg base CX0 3 T.a_zeros T.d_zeros ["number", "base"] (spF K N_zeros 2 sa_zeros .a (fun a => F_zeros a.1 a.2.1)) := by
  have nd := sc_zeros.nd
  refine fn_v (slE := sl_zeros_0) (fb := fun a => fb_zeros (in_zeros a)) none T.F_zeros sc_zeros rfl (fun _ h => nomatch h) (.inl rfl) (fun _ => rfl) fun cdv A outer s H E hr => ?_
  exact (bv_wk (sl'' := sl_zeros_0) (h := in_zeros) (fun _ => Wk.refl _)
  (bv_cons (sl'' := sl_zeros_0) (sv_expr (pv_calla (ok_check_numbers T) (hr.mono (by decide)) (by rfl) T.m_check_numbers T.F_check_numbers.kp T.b_check_numbers (av_a (pv_var (i := 1) (fun s : S_zeros => s.v_base) (fun _ => rfl)) (av_b (PV.fb (pv_lst (pal_cons (pv_tup3 (pv_var (i := 0) (fun s : S_zeros => s.v_number) (fun _ => rfl)) pv_int (pv_gint (i := 1000000) (by rfl) T.c_MOST_NUMBER.choose_spec ⟨_, rfl⟩)) (pal_nil (τ := (T3 Int Int Int)))))) av_nil)) (fun _ => ⟨3, rfl, rfl⟩)))
  (bv_cons (sl'' := sl_zeros_0) (sv_ret (pv_calla (ok_zeros_of T) (hr.mono (by decide)) (by rfl) T.m_zeros_of T.F_zeros_of.kp T.b_zeros_of (av_a (pv_var (i := 0) (fun s : S_zeros => s.v_number) (fun _ => rfl)) (av_a (pv_var (i := 1) (fun s : S_zeros => s.v_base) (fun _ => rfl)) av_nil)) (fun _ => ⟨1, rfl, rfl⟩)))
  (bv_nil (sl := sl_zeros_0) (h := fun s => s) (fun _ => Wk.refl _)))))
/-! ## law -/
structure S_law where
  mk ::
  v_script : (List Int)
  v_draws : (List Int)
  v_turn : Int
  v_base : Int
  v_whole : Int
  v_last : Int
  v_most : Int
  v_table : (List Int)
  v_number : Int
  v_many : Int
  v_told : (Option (T2 Int Int))
  v_due : Int
  v_good : (List Int)
  v_due__v2 : (Option (T2 Int Int))
  v_first : Int
  v_size : Int
@[reducible] def sl_law_0 (s : S_law) : Sl := (fun s : S_law => ([some (Mo.b, enc s.v_script), some (Mo.a, enc s.v_draws), some (Mo.a, enc s.v_turn), some (Mo.a, enc s.v_base), some (Mo.a, enc s.v_whole), none, none, none, none, none, none, none, none, none, none] : Sl)) s
@[reducible] def sl_law_1 (s : S_law) : Sl := (fun s : S_law => ([some (Mo.b, enc s.v_script), some (Mo.a, enc s.v_draws), some (Mo.a, enc s.v_turn), some (Mo.a, enc s.v_base), some (Mo.a, enc s.v_whole), some (Mo.a, enc s.v_last), none, none, none, none, none, none, none, none, none] : Sl)) s
@[reducible] def sl_law_2 (s : S_law) : Sl := (fun s : S_law => ([some (Mo.b, enc s.v_script), some (Mo.a, enc s.v_draws), some (Mo.a, enc s.v_turn), some (Mo.a, enc s.v_base), some (Mo.a, enc s.v_whole), some (Mo.a, enc s.v_last), some (Mo.a, enc s.v_most), some (Mo.o, enc s.v_table), some (Mo.a, enc s.v_number), some (Mo.a, enc s.v_many), some (Mo.a, enc s.v_told), none, none, some (Mo.a, enc s.v_first), none] : Sl)) s
@[reducible] def sl_law_3 (s : S_law) : Sl := (fun s : S_law => ([some (Mo.b, enc s.v_script), some (Mo.a, enc s.v_draws), some (Mo.a, enc s.v_turn), some (Mo.a, enc s.v_base), some (Mo.a, enc s.v_whole), some (Mo.a, enc s.v_last), some (Mo.a, enc s.v_most), some (Mo.o, enc s.v_table), some (Mo.a, enc s.v_number), some (Mo.a, enc s.v_many), some (Mo.a, enc s.v_told), none, none, some (Mo.a, enc s.v_first), some (Mo.a, enc s.v_size)] : Sl)) s
@[reducible] def sl_law_4 (s : S_law) : Sl := (fun s : S_law => ([some (Mo.b, enc s.v_script), some (Mo.a, enc s.v_draws), some (Mo.a, enc s.v_turn), some (Mo.a, enc s.v_base), some (Mo.a, enc s.v_whole), some (Mo.a, enc s.v_last), some (Mo.a, enc s.v_most), some (Mo.o, enc s.v_table), some (Mo.a, enc s.v_number), none, none, some (Mo.a, enc s.v_due), none, none, none] : Sl)) s
@[reducible] def sl_law_5 (s : S_law) : Sl := (fun s : S_law => ([some (Mo.b, enc s.v_script), some (Mo.a, enc s.v_draws), some (Mo.a, enc s.v_turn), some (Mo.a, enc s.v_base), some (Mo.a, enc s.v_whole), some (Mo.a, enc s.v_last), some (Mo.a, enc s.v_most), some (Mo.o, enc s.v_table), some (Mo.a, enc s.v_number), none, none, none, none, none, none] : Sl)) s
@[reducible] def sl_law_6 (s : S_law) : Sl := (fun s : S_law => ([some (Mo.b, enc s.v_script), some (Mo.a, enc s.v_draws), some (Mo.a, enc s.v_turn), some (Mo.a, enc s.v_base), some (Mo.a, enc s.v_whole), some (Mo.a, enc s.v_last), some (Mo.a, enc s.v_most), some (Mo.o, enc s.v_table), none, none, none, none, none, none, none] : Sl)) s
@[reducible] def sl_law_7 (s : S_law) : Sl := (fun s : S_law => ([some (Mo.b, enc s.v_script), some (Mo.a, enc s.v_draws), some (Mo.a, enc s.v_turn), some (Mo.a, enc s.v_base), some (Mo.a, enc s.v_whole), some (Mo.a, enc s.v_last), some (Mo.a, enc s.v_most), some (Mo.o, enc s.v_table), none, some (Mo.a, enc s.v_many), some (Mo.a, enc s.v_told), some (Mo.a, enc s.v_due__v2), some (Mo.a, enc s.v_good), none, none] : Sl)) s
@[reducible] def sl_law_8 (s : S_law) : Sl := (fun s : S_law => ([some (Mo.b, enc s.v_script), some (Mo.a, enc s.v_draws), some (Mo.a, enc s.v_turn), some (Mo.a, enc s.v_base), some (Mo.a, enc s.v_whole), some (Mo.a, enc s.v_last), some (Mo.a, enc s.v_most), some (Mo.o, enc s.v_table), none, some (Mo.a, enc s.v_many), some (Mo.a, enc s.v_told), none, some (Mo.a, enc s.v_good), none, none] : Sl)) s
@[reducible] def sl_law_9 (s : S_law) : Sl := (fun s : S_law => ([some (Mo.b, enc s.v_script), some (Mo.a, enc s.v_draws), some (Mo.a, enc s.v_turn), some (Mo.a, enc s.v_base), some (Mo.a, enc s.v_whole), some (Mo.a, enc s.v_last), some (Mo.a, enc s.v_most), some (Mo.o, enc s.v_table), none, some (Mo.a, enc s.v_many), none, none, some (Mo.a, enc s.v_good), none, none] : Sl)) s
@[reducible] def sl_law_10 (s : S_law) : Sl := (fun s : S_law => ([some (Mo.b, enc s.v_script), some (Mo.a, enc s.v_draws), some (Mo.a, enc s.v_turn), some (Mo.a, enc s.v_base), some (Mo.a, enc s.v_whole), some (Mo.a, enc s.v_last), some (Mo.a, enc s.v_most), some (Mo.o, enc s.v_table), none, some (Mo.a, enc s.v_many), none, none, none, none, none] : Sl)) s
@[reducible] def sl_law_11 (s : S_law) : Sl := (fun s : S_law => ([some (Mo.b, enc s.v_script), some (Mo.a, enc s.v_draws), some (Mo.a, enc s.v_turn), some (Mo.a, enc s.v_base), some (Mo.a, enc s.v_whole), some (Mo.a, enc s.v_last), some (Mo.a, enc s.v_most), some (Mo.o, enc s.v_table), some (Mo.a, enc s.v_number), some (Mo.a, enc s.v_many), some (Mo.a, enc s.v_told), none, none, none, none] : Sl)) s
@[reducible] def sl_law_12 (s : S_law) : Sl := (fun s : S_law => ([some (Mo.b, enc s.v_script), some (Mo.a, enc s.v_draws), some (Mo.a, enc s.v_turn), some (Mo.a, enc s.v_base), some (Mo.a, enc s.v_whole), some (Mo.a, enc s.v_last), some (Mo.a, enc s.v_most), some (Mo.o, enc s.v_table), some (Mo.a, enc s.v_number), some (Mo.a, enc s.v_many), none, none, none, none, none] : Sl)) s
@[reducible] def sl_law_13 (s : S_law) : Sl := (fun s : S_law => ([some (Mo.b, enc s.v_script), some (Mo.a, enc s.v_draws), some (Mo.a, enc s.v_turn), some (Mo.a, enc s.v_base), some (Mo.a, enc s.v_whole), some (Mo.a, enc s.v_last), some (Mo.a, enc s.v_most), none, none, none, none, none, none, none, none] : Sl)) s
@[reducible] def sl_law_14 (s : S_law) : Sl := (fun s : S_law => ([some (Mo.b, enc s.v_script), some (Mo.a, enc s.v_draws), some (Mo.a, enc s.v_turn), some (Mo.a, enc s.v_base), none, none, none, none, none, none, none, none, none, none, none] : Sl)) s
@[reducible] def sl_law_15 (s : S_law) : Sl := (fun s : S_law => ([some (Mo.b, enc s.v_script), some (Mo.a, enc s.v_draws), some (Mo.a, enc s.v_turn), none, none, none, none, none, none, none, none, none, none, none, none] : Sl)) s
@[reducible] def sl_law_16 (s : S_law) : Sl := (fun s : S_law => ([some (Mo.b, enc s.v_script), some (Mo.a, enc s.v_draws), none, none, none, none, none, none, none, none, none, none, none, none, none] : Sl)) s
@[reducible] def sl_law_17 (s : S_law) : Sl := (fun s : S_law => ([some (Mo.b, enc s.v_script), none, none, none, none, none, none, none, none, none, none, none, none, none, none] : Sl)) s
def lp_law_0 (s : S_law) : Option (Out S_law Bool) :=
  seqO (((some s.v_whole).bind fun x1592 => (some s.v_number).bind fun x1593 => iMul x1592 x1593).bind fun x1594 => some (Out.nx (ρ := Bool) { s with v_whole := x1594 })) fun s =>
  seqO ((((some s.v_whole).bind fun x1607 => ((some s.v_base).bind fun x1608 => (some ()).bind fun x1609 => some (x1608, x1609)).bind fun x1610 => some (x1607, x1610)).bind fun x1611 => F__law_zeros x1611.1 x1611.2.1).bind fun x1612 => some (Out.nx (ρ := Bool) { s with v_due := x1612 })) fun s =>
  seqO (((((((some s.v_number).bind fun x1654 => ((some s.v_base).bind fun x1655 => (some ()).bind fun x1656 => some (x1655, x1656)).bind fun x1657 => some (x1654, x1657)).bind fun x1658 => F_zeros_of_product x1658.1 x1658.2.1).bind fun x1659 => rShow x1659).bind fun x1661 => ((some s.v_due).bind fun x1660 => rShow x1660).bind fun x1662 => some (!decide (x1661 = x1662))).bind fun x1673 => if x1673 = true then some true else ((some s.v_due).bind fun x1663 => (some s.v_last).bind fun x1664 => some (decide (x1663 < x1664))).bind fun x1672 => if x1672 = true then some true else (some s.v_due).bind fun x1670 => (((some s.v_number).bind fun x1665 => ((some s.v_base).bind fun x1666 => (some ()).bind fun x1667 => some (x1666, x1667)).bind fun x1668 => some (x1665, x1668)).bind fun x1669 => F__law_due x1669.1 x1669.2.1).bind fun x1671 => some (!decide (x1670 = x1671))).bind fun x1677 => if x1677 = true then
  (seqO ((some false).bind fun x1676 => some (Out.rt x1676)) fun s =>
  some (Out.nx (ρ := Bool) s))
  else some (Out.nx (ρ := Bool) s)) fun s =>
  seqO ((((((some s.v_number).bind fun x1743 => some x1743).bind fun x1744 => (some (9 : Int)).bind fun x1745 => iMod x1744 x1745).bind fun x1746 => (some (0 : Int)).bind fun x1747 => some (decide (x1746 = x1747))).bind fun x1774 => if x1774 = true then ((((some s.v_number).bind fun x1748 => ((some s.v_base).bind fun x1749 => (some ()).bind fun x1750 => some (x1749, x1750)).bind fun x1751 => some (x1748, x1751)).bind fun x1752 => F_last_of_product x1752.1 x1752.2.1).bind fun x1753 => rShow x1753).bind fun x1772 => (((((some s.v_whole).bind fun x1754 => ((some s.v_base).bind fun x1755 => (some ()).bind fun x1756 => some (x1755, x1756)).bind fun x1757 => some (x1754, x1757)).bind fun x1758 => F__law_write x1758.1 x1758.2.1).bind fun x1769 => ((((((some s.v_whole).bind fun x1759 => ((some s.v_base).bind fun x1760 => (some ()).bind fun x1761 => some (x1760, x1761)).bind fun x1762 => some (x1759, x1762)).bind fun x1763 => F__law_write x1763.1 x1763.2.1).bind fun x1764 => if x1764.cs.length ≤ sizeLine then some (x1764.cs.length : Int) else none).bind fun x1765 => (some (1 : Int)).bind fun x1766 => some (x1765 - x1766)).bind fun x1767 => (some s.v_due).bind fun x1768 => some (x1767 - x1768)).bind fun x1770 => sIx x1769 x1770).bind fun x1771 => rShow x1771).bind fun x1773 => some (!decide (x1772 = x1773)) else some false).bind fun x1778 => if x1778 = true then
  (seqO ((some false).bind fun x1777 => some (Out.rt x1777)) fun s =>
  some (Out.nx (ρ := Bool) s))
  else some (Out.nx (ρ := Bool) s)) fun s =>
  seqO ((some s.v_due).bind fun x1781 => some (Out.nx (ρ := Bool) { s with v_last := x1781 })) fun s =>
  seqO ((some s.v_due).bind fun x1786 => (push s.v_table x1786).bind fun x1787 => some (Out.nx (ρ := Bool) { s with v_table := x1787 })) fun s =>
  some (Out.nx (ρ := Bool) { s with v_number := 0, v_due := 0 })
def lp_law_1 (s : S_law) : Option (Out S_law Bool) :=
  seqO (((((some s.v_most).bind fun x1875 => (some (1 : Int)).bind fun x1876 => some (x1875 + x1876)).bind fun x1877 => rng1 x1877).bind fun x1882 => (lNew x1882).bind fun x1883 => compO (fun s : (S_law × Int) => ((some s.1.v_table).bind fun x1878 => (some s.2).bind fun x1879 => atI x1878 x1879).bind fun x1880 => (some s.1.v_many).bind fun x1881 => some (decide (x1880 = x1881))) (fun s : (S_law × Int) => some s.2) (fun t : Int => ((s, t) : (S_law × Int))) x1883).bind fun x1884 => some (Out.nx (ρ := Bool) { s with v_good := x1884 })) fun s =>
  seqO ((((some s.v_many).bind fun x1897 => ((some s.v_base).bind fun x1898 => (some ()).bind fun x1899 => some (x1898, x1899)).bind fun x1900 => some (x1897, x1900)).bind fun x1901 => F_products_with x1901.1 x1901.2.1).bind fun x1902 => some (Out.nx (ρ := Bool) { s with v_told := x1902 })) fun s =>
  seqO ((some (none : Option (T2 Int Int))).bind fun x1905 => some (Out.nx (ρ := Bool) { s with v_due__v2 := x1905 })) fun s =>
  seqO (((some s.v_good).bind fun x1917 => (some ([] : List Int)).bind fun x1918 => dNe x1917 x1918).bind fun x1940 => if x1940 = true then
  (seqO (((((some s.v_good).bind fun x1933 => (some (0 : Int)).bind fun x1934 => atI x1933 x1934).bind fun x1936 => ((some s.v_good).bind fun x1935 => some (x1935.length : Int)).bind fun x1937 => some (T2.mk x1936 x1937)).bind fun x1938 => some (some x1938)).bind fun x1939 => some (Out.nx (ρ := Bool) { s with v_due__v2 := x1939 })) fun s =>
  some (Out.nx (ρ := Bool) s))
  else some (Out.nx (ρ := Bool) s)) fun s =>
  seqO ((((some s.v_told).bind fun x1950 => rShow x1950).bind fun x1952 => ((some s.v_due__v2).bind fun x1951 => rShow x1951).bind fun x1953 => some (!decide (x1952 = x1953))).bind fun x1957 => if x1957 = true then
  (seqO ((some false).bind fun x1956 => some (Out.rt x1956)) fun s =>
  some (Out.nx (ρ := Bool) s))
  else some (Out.nx (ρ := Bool) s)) fun s =>
  some (Out.nx (ρ := Bool) { s with v_many := 0, v_told := none, v_due__v2 := none, v_good := [] })
def lp_law_2 (s : S_law) : Option (Out S_law Bool) :=
  seqO (((((some (2 : Int)).bind fun x1360 => (((some s.v_draws).bind fun x1353 => ((some s.v_turn).bind fun x1354 => ((some (35 : Int)).bind fun x1355 => (some ()).bind fun x1356 => some (x1355, x1356)).bind fun x1357 => some (x1354, x1357)).bind fun x1358 => some (x1353, x1358)).bind fun x1359 => F__law_mix x1359.1 x1359.2.1 x1359.2.2.1).bind fun x1361 => some (x1360 + x1361)).bind fun x1362 => ((((some (10 : Int)).bind fun x1338 => ((some (12 : Int)).bind fun x1336 => ((some (16 : Int)).bind fun x1334 => ((some (8 : Int)).bind fun x1332 => ((some (30 : Int)).bind fun x1330 => (some ([] : List Int)).bind fun x1331 => some (x1330 :: x1331)).bind fun x1333 => some (x1332 :: x1333)).bind fun x1335 => some (x1334 :: x1335)).bind fun x1337 => some (x1336 :: x1337)).bind fun x1339 => some (x1338 :: x1339)).bind fun x1349 => (((some s.v_draws).bind fun x1342 => (((some (3 : Int)).bind fun x1340 => (some s.v_turn).bind fun x1341 => some (x1340 + x1341)).bind fun x1343 => ((some (5 : Int)).bind fun x1344 => (some ()).bind fun x1345 => some (x1344, x1345)).bind fun x1346 => some (x1343, x1346)).bind fun x1347 => some (x1342, x1347)).bind fun x1348 => F__law_mix x1348.1 x1348.2.1 x1348.2.2.1).bind fun x1350 => atI x1349 x1350).bind fun x1351 => (some ([] : List Int)).bind fun x1352 => some (x1351 :: x1352)).bind fun x1363 => some (x1362 :: x1363)).bind fun x1373 => (((some s.v_draws).bind fun x1366 => (((some (6 : Int)).bind fun x1364 => (some s.v_turn).bind fun x1365 => some (x1364 + x1365)).bind fun x1367 => ((some (2 : Int)).bind fun x1368 => (some ()).bind fun x1369 => some (x1368, x1369)).bind fun x1370 => some (x1367, x1370)).bind fun x1371 => some (x1366, x1371)).bind fun x1372 => F__law_mix x1372.1 x1372.2.1 x1372.2.2.1).bind fun x1374 => atI x1373 x1374).bind fun x1375 => some (Out.nx (ρ := Bool) { s with v_base := x1375 })) fun s =>
  seqO (((some (1 : Int)).bind fun x1388 => (some (0 : Int)).bind fun x1389 => some (T2.mk x1388 x1389)).bind fun x1390 => some (Out.nx (ρ := Bool) ((fun (s : S_law) (t : (T2 Int Int)) => { ({ s with v_whole := t.a }) with v_last := t.b }) s x1390))) fun s =>
  seqO (((some (10 : Int)).bind fun x1424 => (((some s.v_draws).bind fun x1417 => (((some (9 : Int)).bind fun x1415 => (some s.v_turn).bind fun x1416 => some (x1415 + x1416)).bind fun x1418 => ((some (60 : Int)).bind fun x1419 => (some ()).bind fun x1420 => some (x1419, x1420)).bind fun x1421 => some (x1418, x1421)).bind fun x1422 => some (x1417, x1422)).bind fun x1423 => F__law_mix x1423.1 x1423.2.1 x1423.2.2.1).bind fun x1425 => some (x1424 + x1425)).bind fun x1426 => some (Out.nx (ρ := Bool) { s with v_most := x1426 })) fun s =>
  seqO (((some (0 : Int)).bind fun x1435 => (some ([] : List Int)).bind fun x1436 => some (x1435 :: x1436)).bind fun x1437 => some (Out.nx (ρ := Bool) { s with v_table := x1437 })) fun s =>
  seqO (((some (1 : Int)).bind fun x1584 => ((some s.v_most).bind fun x1582 => (some (1 : Int)).bind fun x1583 => some (x1582 + x1583)).bind fun x1585 => rng2 x1584 x1585).bind fun x1788 => forO (fun (s : S_law) (t : Int) => { s with v_number := t }) lp_law_0 x1788 s) fun s =>
  seqO (((some s.v_last).bind fun x1854 => rng1 x1854).bind fun x1958 => forO (fun (s : S_law) (t : Int) => { s with v_many := t }) lp_law_1 x1958 s) fun s =>
  seqO (((some (1 : Int)).bind fun x2043 => ((((some s.v_draws).bind fun x2019 => (((some (12 : Int)).bind fun x2017 => (some s.v_turn).bind fun x2018 => some (x2017 + x2018)).bind fun x2020 => ((some (60000 : Int)).bind fun x2021 => (some ()).bind fun x2022 => some (x2021, x2022)).bind fun x2023 => some (x2020, x2023)).bind fun x2024 => some (x2019, x2024)).bind fun x2025 => F__law_mix x2025.1 x2025.2.1 x2025.2.2.1).bind fun x2041 => (((some (1 : Int)).bind fun x2028 => ((some (16 : Int)).bind fun x2026 => (some ([] : List Int)).bind fun x2027 => some (x2026 :: x2027)).bind fun x2029 => some (x2028 :: x2029)).bind fun x2039 => (((some s.v_draws).bind fun x2032 => (((some (15 : Int)).bind fun x2030 => (some s.v_turn).bind fun x2031 => some (x2030 + x2031)).bind fun x2033 => ((some (2 : Int)).bind fun x2034 => (some ()).bind fun x2035 => some (x2034, x2035)).bind fun x2036 => some (x2033, x2036)).bind fun x2037 => some (x2032, x2037)).bind fun x2038 => F__law_mix x2038.1 x2038.2.1 x2038.2.2.1).bind fun x2040 => atI x2039 x2040).bind fun x2042 => iMul x2041 x2042).bind fun x2044 => some (x2043 + x2044)).bind fun x2045 => some (Out.nx (ρ := Bool) { s with v_number := x2045 })) fun s =>
  seqO ((((((some s.v_number).bind fun x2097 => ((some s.v_base).bind fun x2098 => (some ()).bind fun x2099 => some (x2098, x2099)).bind fun x2100 => some (x2097, x2100)).bind fun x2101 => F_zeros_of_product x2101.1 x2101.2.1).bind fun x2107 => (((some s.v_number).bind fun x2102 => ((some s.v_base).bind fun x2103 => (some ()).bind fun x2104 => some (x2103, x2104)).bind fun x2105 => some (x2102, x2105)).bind fun x2106 => F__law_due x2106.1 x2106.2.1).bind fun x2108 => some (!decide (x2107 = x2108))).bind fun x2121 => if x2121 = true then some true else (((some s.v_number).bind fun x2109 => ((some s.v_base).bind fun x2110 => (some ()).bind fun x2111 => some (x2110, x2111)).bind fun x2112 => some (x2109, x2112)).bind fun x2113 => F_zeros x2113.1 x2113.2.1).bind fun x2119 => (((some s.v_number).bind fun x2114 => ((some s.v_base).bind fun x2115 => (some ()).bind fun x2116 => some (x2115, x2116)).bind fun x2117 => some (x2114, x2117)).bind fun x2118 => F__law_zeros x2118.1 x2118.2.1).bind fun x2120 => some (!decide (x2119 = x2120))).bind fun x2125 => if x2125 = true then
  (seqO ((some false).bind fun x2124 => some (Out.rt x2124)) fun s =>
  some (Out.nx (ρ := Bool) s))
  else some (Out.nx (ρ := Bool) s)) fun s =>
  seqO ((((((((some s.v_number).bind fun x2203 => (some s.v_base).bind fun x2204 => iMul x2203 x2204).bind fun x2205 => (some s.v_base).bind fun x2206 => iDiv x2205 x2206).bind fun x2207 => ((some s.v_base).bind fun x2208 => (some ()).bind fun x2209 => some (x2208, x2209)).bind fun x2210 => some (x2207, x2210)).bind fun x2211 => F_zeros x2211.1 x2211.2.1).bind fun x2217 => (((some s.v_number).bind fun x2212 => ((some s.v_base).bind fun x2213 => (some ()).bind fun x2214 => some (x2213, x2214)).bind fun x2215 => some (x2212, x2215)).bind fun x2216 => F__law_zeros x2216.1 x2216.2.1).bind fun x2218 => some (!decide (x2217 = x2218))).bind fun x2240 => if x2240 = true then some true else (((some s.v_number).bind fun x2219 => (some s.v_base).bind fun x2220 => iMul x2219 x2220).bind fun x2221 => (some (1000000 : Int)).bind fun x2222 => some (decide (x2221 ≤ x2222))).bind fun x2239 => if x2239 = true then ((((some s.v_number).bind fun x2223 => (some s.v_base).bind fun x2224 => iMul x2223 x2224).bind fun x2225 => ((some s.v_base).bind fun x2226 => (some ()).bind fun x2227 => some (x2226, x2227)).bind fun x2228 => some (x2225, x2228)).bind fun x2229 => F_zeros x2229.1 x2229.2.1).bind fun x2237 => ((some (1 : Int)).bind fun x2235 => (((some s.v_number).bind fun x2230 => ((some s.v_base).bind fun x2231 => (some ()).bind fun x2232 => some (x2231, x2232)).bind fun x2233 => some (x2230, x2233)).bind fun x2234 => F_zeros x2234.1 x2234.2.1).bind fun x2236 => some (x2235 + x2236)).bind fun x2238 => some (!decide (x2237 = x2238)) else some false).bind fun x2244 => if x2244 = true then
  (seqO ((some false).bind fun x2243 => some (Out.rt x2243)) fun s =>
  some (Out.nx (ρ := Bool) s))
  else some (Out.nx (ρ := Bool) s)) fun s =>
  seqO ((((some s.v_draws).bind fun x2267 => (((some (18 : Int)).bind fun x2265 => (some s.v_turn).bind fun x2266 => some (x2265 + x2266)).bind fun x2268 => ((some (10001 : Int)).bind fun x2269 => (some ()).bind fun x2270 => some (x2269, x2270)).bind fun x2271 => some (x2268, x2271)).bind fun x2272 => some (x2267, x2272)).bind fun x2273 => F__law_mix x2273.1 x2273.2.1 x2273.2.2.1).bind fun x2274 => some (Out.nx (ρ := Bool) { s with v_many := x2274 })) fun s =>
  seqO ((((some s.v_many).bind fun x2287 => ((some s.v_base).bind fun x2288 => (some ()).bind fun x2289 => some (x2288, x2289)).bind fun x2290 => some (x2287, x2290)).bind fun x2291 => F_products_with x2291.1 x2291.2.1).bind fun x2292 => some (Out.nx (ρ := Bool) { s with v_told := x2292 })) fun s =>
  seqO (((some s.v_told).bind fun x2345 => (some ()).bind fun x2346 => some (!x2345.isNone)).bind fun x2495 => if x2495 = true then
  (seqO (((some s.v_told).bind fun x2351 => x2351).bind fun x2352 => some (Out.nx (ρ := Bool) ((fun (s : S_law) (t : (T2 Int Int)) => { ({ s with v_first := t.a }) with v_size := t.b }) s x2352))) fun s =>
  seqO ((((some s.v_size).bind fun x2418 => (some (1 : Int)).bind fun x2419 => some (decide (x2418 < x2419))).bind fun x2449 => if x2449 = true then some true else ((((some s.v_first).bind fun x2420 => ((some s.v_base).bind fun x2421 => (some ()).bind fun x2422 => some (x2421, x2422)).bind fun x2423 => some (x2420, x2423)).bind fun x2424 => F__law_due x2424.1 x2424.2.1).bind fun x2425 => (some s.v_many).bind fun x2426 => some (!decide (x2425 = x2426))).bind fun x2448 => if x2448 = true then some true else ((((((some s.v_first).bind fun x2427 => (some s.v_size).bind fun x2428 => some (x2427 + x2428)).bind fun x2429 => (some (1 : Int)).bind fun x2430 => some (x2429 - x2430)).bind fun x2431 => ((some s.v_base).bind fun x2432 => (some ()).bind fun x2433 => some (x2432, x2433)).bind fun x2434 => some (x2431, x2434)).bind fun x2435 => F__law_due x2435.1 x2435.2.1).bind fun x2436 => (some s.v_many).bind fun x2437 => some (!decide (x2436 = x2437))).bind fun x2447 => if x2447 = true then some true else ((((some s.v_first).bind fun x2438 => (some s.v_size).bind fun x2439 => some (x2438 + x2439)).bind fun x2440 => ((some s.v_base).bind fun x2441 => (some ()).bind fun x2442 => some (x2441, x2442)).bind fun x2443 => some (x2440, x2443)).bind fun x2444 => F__law_due x2444.1 x2444.2.1).bind fun x2445 => (some s.v_many).bind fun x2446 => some (decide (x2445 = x2446))).bind fun x2453 => if x2453 = true then
  (seqO ((some false).bind fun x2452 => some (Out.rt x2452)) fun s =>
  some (Out.nx (ρ := Bool) s))
  else some (Out.nx (ρ := Bool) s)) fun s =>
  seqO ((((some s.v_first).bind fun x2479 => (some (0 : Int)).bind fun x2480 => some (decide (x2479 > x2480))).bind fun x2490 => if x2490 = true then ((((some s.v_first).bind fun x2481 => (some (1 : Int)).bind fun x2482 => some (x2481 - x2482)).bind fun x2483 => ((some s.v_base).bind fun x2484 => (some ()).bind fun x2485 => some (x2484, x2485)).bind fun x2486 => some (x2483, x2486)).bind fun x2487 => F__law_due x2487.1 x2487.2.1).bind fun x2488 => (some s.v_many).bind fun x2489 => some (decide (x2488 = x2489)) else some false).bind fun x2494 => if x2494 = true then
  (seqO ((some false).bind fun x2493 => some (Out.rt x2493)) fun s =>
  some (Out.nx (ρ := Bool) s))
  else some (Out.nx (ρ := Bool) s)) fun s =>
  some (Out.nx (ρ := Bool) { s with v_first := 0, v_size := 0 }))
  else some (Out.nx (ρ := Bool) s)) fun s =>
  some (Out.nx (ρ := Bool) { s with v_turn := 0, v_base := 0, v_whole := 0, v_last := 0, v_most := 0, v_table := [], v_number := 0, v_many := 0, v_told := none })
def fb_law (s : S_law) : Option (Out S_law Bool) :=
  seqO ((((some s.v_script).bind fun x420 => (some ()).bind fun x421 => some (x420, x421)).bind fun x422 => F__law_draws x422.1).bind fun x423 => some (Out.nx (ρ := Bool) { s with v_draws := x423 })) fun s =>
  seqO (((some (3 : Int)).bind fun x1147 => rng1 x1147).bind fun x2496 => forO (fun (s : S_law) (t : Int) => { s with v_turn := t }) lp_law_2 x2496 s) fun s =>
  seqO ((((((some (5 : Int)).bind fun x2556 => ((some (10 : Int)).bind fun x2557 => (some ()).bind fun x2558 => some (x2557, x2558)).bind fun x2559 => some (x2556, x2559)).bind fun x2560 => F_products_with x2560.1 x2560.2.1).bind fun x2561 => (some ()).bind fun x2562 => some (!x2561.isNone)).bind fun x2584 => if x2584 = true then some true else ((((some (1 : Int)).bind fun x2563 => ((some (10 : Int)).bind fun x2564 => (some ()).bind fun x2565 => some (x2564, x2565)).bind fun x2566 => some (x2563, x2566)).bind fun x2567 => F_products_with x2567.1 x2567.2.1).bind fun x2571 => (((some (5 : Int)).bind fun x2568 => (some (5 : Int)).bind fun x2569 => some (T2.mk x2568 x2569)).bind fun x2570 => some (some x2570)).bind fun x2572 => dNe x2571 x2572).bind fun x2583 => if x2583 = true then some true else (((some (0 : Int)).bind fun x2573 => ((some (2 : Int)).bind fun x2574 => (some ()).bind fun x2575 => some (x2574, x2575)).bind fun x2576 => some (x2573, x2576)).bind fun x2577 => F_products_with x2577.1 x2577.2.1).bind fun x2581 => (((some (0 : Int)).bind fun x2578 => (some (2 : Int)).bind fun x2579 => some (T2.mk x2578 x2579)).bind fun x2580 => some (some x2580)).bind fun x2582 => dNe x2581 x2582).bind fun x2588 => if x2588 = true then
  (seqO ((some false).bind fun x2587 => some (Out.rt x2587)) fun s =>
  some (Out.nx (ρ := Bool) s))
  else some (Out.nx (ρ := Bool) s)) fun s =>
  seqO ((((((some (0 : Int)).bind fun x2621 => ((some (7 : Int)).bind fun x2622 => (some ()).bind fun x2623 => some (x2622, x2623)).bind fun x2624 => some (x2621, x2624)).bind fun x2625 => F_zeros_of_product x2625.1 x2625.2.1).bind fun x2626 => (some (0 : Int)).bind fun x2627 => some (decide (x2626 = x2627))).bind fun x2635 => if x2635 = true then (((some (10 : Int)).bind fun x2628 => ((some (10 : Int)).bind fun x2629 => (some ()).bind fun x2630 => some (x2629, x2630)).bind fun x2631 => some (x2628, x2631)).bind fun x2632 => F_last_of_product x2632.1 x2632.2.1).bind fun x2633 => (some (⟨[56]⟩ : Tx)).bind fun x2634 => some (decide (x2633 = x2634)) else some false).bind fun x2636 => some (Out.rt x2636)) fun s =>
  some (Out.nx (ρ := Bool) s)
def F_law (v_script : (List Int)) : Option Bool := outF none (fb_law (⟨v_script, [], 0, 0, 0, 0, 0, [], 0, 0, none, 0, [], none, 0, 0⟩ : S_law))
@[reducible] def sa_law (a : (List Int) × Unit) : Sl := [some (Mo.b, enc a.1), none, none, none, none, none, none, none, none, none, none, none, none, none, none]
@[reducible] def in_law (a : (List Int) × Unit) : S_law := ⟨a.1, [], 0, 0, 0, 0, 0, [], 0, 0, none, 0, [], none, 0, 0⟩
abbrev N_law : List Str := ["script", "draws", "turn", "base", "whole", "last", "most", "table", "number", "many", "told", "due", "good", "first", "size"]
abbrev s_law : Stmt := topS 32
theorem sc_law : FnScope N_law ["script"] (defScope s_law) := ⟨rfl, rfl, rfl, by decide +kernel, rfl, by decide +kernel, by decide +kernel⟩
theorem ok_law (T : Top K mg) : FnAt P w K mg base T.a_law T.d_law ["script"] (spF K N_law 1 sa_law .a (fun a => F_law a.1)) := by
  have nd := sc_law.nd
  refine fnAt_v (k := 4) (slE := sl_law_17) (fb := fun a => fb_law (in_law a)) none T.F_law sc_law ⟨rfl, by decide, by decide⟩ rfl (fun _ h => nomatch h) (.inl rfl) (fun _ => rfl) fun cdv s H E hr => ?_
  exact (bv_wk (sl'' := sl_law_17) (h := in_law) (fun _ => Wk.refl _)
  (bv_cons (sl'' := sl_law_16) (sv_set (i := 1) (fun (s : S_law) t => { s with v_draws := t }) (fun _ _ => rfl) nd (PV.fa (pv_callf (ok__law_draws T) (hr.mono (by decide)) (by rfl) T.m__law_draws T.F__law_draws.kp T.b__law_draws (av_b (pv_varb (i := 0) (fun s : S_law => s.v_script) (fun _ => rfl)) av_nil) (fun _ => ⟨5, rfl, rfl⟩))))
  (bv_cons (sl'' := sl_law_16) (sv_for (sl := sl_law_16) PassesOwn.never (piv_range1 (by rfl) T.z_range (PV.ab pv_int)) (gv_name (i := 2) (slb := sl_law_15) (set := (fun (s : S_law) (t : Int) => { s with v_turn := t })) (fun _ _ => rfl) nd)
  (bv_cons (sl'' := sl_law_14) (sv_set (i := 3) (fun (s : S_law) t => { s with v_base := t }) (fun _ _ => rfl) nd (pv_ix (PV.fb (pv_lst (pal_cons (pv_add (PV.ab pv_int) (PV.ab (pv_calla (ok__law_mix T) (hr.mono (by decide)) (by rfl) T.m__law_mix T.F__law_mix.kp T.b__law_mix (av_b (PV.ab (pv_var (i := 1) (fun s : S_law => s.v_draws) (fun _ => rfl))) (av_a (pv_var (i := 2) (fun s : S_law => s.v_turn) (fun _ => rfl)) (av_a pv_int av_nil))) (fun _ => ⟨1, rfl, rfl⟩)))) (pal_cons (pv_ix (PV.fb (pv_lst (pal_cons pv_int (pal_cons pv_int (pal_cons pv_int (pal_cons pv_int (pal_cons pv_int (pal_nil (τ := Int))))))))) (PV.ab (pv_calla (ok__law_mix T) (hr.mono (by decide)) (by rfl) T.m__law_mix T.F__law_mix.kp T.b__law_mix (av_b (PV.ab (pv_var (i := 1) (fun s : S_law => s.v_draws) (fun _ => rfl))) (av_a (pv_add (PV.ab pv_int) (PV.ab (pv_var (i := 2) (fun s : S_law => s.v_turn) (fun _ => rfl)))) (av_a pv_int av_nil))) (fun _ => ⟨1, rfl, rfl⟩)))) (pal_nil (τ := Int)))))) (PV.ab (pv_calla (ok__law_mix T) (hr.mono (by decide)) (by rfl) T.m__law_mix T.F__law_mix.kp T.b__law_mix (av_b (PV.ab (pv_var (i := 1) (fun s : S_law => s.v_draws) (fun _ => rfl))) (av_a (pv_add (PV.ab pv_int) (PV.ab (pv_var (i := 2) (fun s : S_law => s.v_turn) (fun _ => rfl)))) (av_a pv_int av_nil))) (fun _ => ⟨1, rfl, rfl⟩)))))
  (bv_cons (sl'' := sl_law_1) (sv_tup (gv_tup (fun t : (T2 Int Int) => [enc t.a, enc t.b]) (fun _ => rfl) (fun _ => rfl) (gvs_cons (p1 := fun t : (T2 Int Int) => t.a) (p2 := fun t : (T2 Int Int) => t) (gv_name (i := 4) (slb := sl_law_0) (set := fun (s : S_law) (t : Int) => { s with v_whole := t }) (fun _ _ => rfl) nd) (gvs_cons (p1 := fun t : (T2 Int Int) => t.b) (p2 := fun t : (T2 Int Int) => t) (gv_name (i := 5) (slb := sl_law_1) (set := fun (s : S_law) (t : Int) => { s with v_last := t }) (fun _ _ => rfl) nd) gvs_nil))) (pv_tup2 pv_int pv_int))
  (bv_cons (sl'' := sl_law_13) (sv_set (i := 6) (fun (s : S_law) t => { s with v_most := t }) (fun _ _ => rfl) nd (pv_add (PV.ab pv_int) (PV.ab (pv_calla (ok__law_mix T) (hr.mono (by decide)) (by rfl) T.m__law_mix T.F__law_mix.kp T.b__law_mix (av_b (PV.ab (pv_var (i := 1) (fun s : S_law => s.v_draws) (fun _ => rfl))) (av_a (pv_add (PV.ab pv_int) (PV.ab (pv_var (i := 2) (fun s : S_law => s.v_turn) (fun _ => rfl)))) (av_a pv_int av_nil))) (fun _ => ⟨1, rfl, rfl⟩)))))
  (bv_cons (sl'' := sl_law_6) (sv_own (i := 7) (fun (s : S_law) t => { s with v_table := t }) (fun _ _ => rfl) nd (pv_lst (pal_cons pv_int (pal_nil (τ := Int)))))
  (bv_cons (sl'' := sl_law_6) (sv_for (sl := sl_law_6) PassesOwn.never (piv_range2 (by rfl) T.z_range (PV.ab pv_int) (PV.ab (pv_add (PV.ab (pv_var (i := 6) (fun s : S_law => s.v_most) (fun _ => rfl))) (PV.ab pv_int)))) (gv_name (i := 8) (slb := sl_law_5) (set := (fun (s : S_law) (t : Int) => { s with v_number := t })) (fun _ _ => rfl) nd)
  (bv_cons (sl'' := sl_law_5) (sv_set (i := 4) (fun (s : S_law) t => { s with v_whole := t }) (fun _ _ => rfl) nd (pv_mul (PV.ab (pv_var (i := 4) (fun s : S_law => s.v_whole) (fun _ => rfl))) (PV.ab (pv_var (i := 8) (fun s : S_law => s.v_number) (fun _ => rfl)))))
  (bv_cons (sl'' := sl_law_4) (sv_set (i := 11) (fun (s : S_law) t => { s with v_due := t }) (fun _ _ => rfl) nd (pv_calla (ok__law_zeros T) (hr.mono (by decide)) (by rfl) T.m__law_zeros T.F__law_zeros.kp T.b__law_zeros (av_a (pv_var (i := 4) (fun s : S_law => s.v_whole) (fun _ => rfl)) (av_a (pv_var (i := 3) (fun s : S_law => s.v_base) (fun _ => rfl)) av_nil)) (fun _ => ⟨2, rfl, rfl⟩)))
  (bv_cons (sl'' := sl_law_4) (sv_if (PBw.pb (pb_or (pb_cmp c_neS (PV.ab (pv_repr rfl (hu64 hr) (by rfl) T.z_repr (PV.ab (pv_calla (ok_zeros_of_product T) (hr.mono (by decide)) (by rfl) T.m_zeros_of_product T.F_zeros_of_product.kp T.b_zeros_of_product (av_a (pv_var (i := 8) (fun s : S_law => s.v_number) (fun _ => rfl)) (av_a (pv_var (i := 3) (fun s : S_law => s.v_base) (fun _ => rfl)) av_nil)) (fun _ => ⟨0, rfl, rfl⟩))))) (PV.ab (pv_repr rfl (hu64 hr) (by rfl) T.z_repr (PV.ab (pv_var (i := 11) (fun s : S_law => s.v_due) (fun _ => rfl)))))) (pb_or (pb_cmp c_lt (PV.ab (pv_var (i := 11) (fun s : S_law => s.v_due) (fun _ => rfl))) (PV.ab (pv_var (i := 5) (fun s : S_law => s.v_last) (fun _ => rfl)))) (pb_or1 (pb_cmp c_neS (PV.ab (pv_var (i := 11) (fun s : S_law => s.v_due) (fun _ => rfl))) (PV.ab (pv_calla (ok__law_due T) (hr.mono (by decide)) (by rfl) T.m__law_due T.F__law_due.kp T.b__law_due (av_a (pv_var (i := 8) (fun s : S_law => s.v_number) (fun _ => rfl)) (av_a (pv_var (i := 3) (fun s : S_law => s.v_base) (fun _ => rfl)) av_nil)) (fun _ => ⟨5, rfl, rfl⟩))))))))
  (bv_cons (sl'' := sl_law_4) (sv_ret pv_bool)
  (bv_nil (sl := sl_law_4) (h := fun s => s) (fun _ => Wk.refl _)))
  (bv_nil (h := fun (s : S_law) => (s : S_law)) (fun _ => (.s (.s (.s (.s (.s (.s (.s (.s (.s (.s (.s (.s (.s (.s (.s .nil))))))))))))))))))
  (bv_cons (sl'' := sl_law_4) (sv_if (PBw.pb (pb_and (pb_cmp c_eqS (PV.ab (pv_mod (PV.ab (pv_int1 (by rfl) T.z_int (PV.ab (pv_var (i := 8) (fun s : S_law => s.v_number) (fun _ => rfl))))) (PV.ab pv_int))) (PV.ab pv_int)) (pb_and1 (pb_cmp c_neS (PV.ab (pv_repr rfl (hu64 hr) (by rfl) T.z_repr (PV.ab (pv_calla (ok_last_of_product T) (hr.mono (by decide)) (by rfl) T.m_last_of_product T.F_last_of_product.kp T.b_last_of_product (av_a (pv_var (i := 8) (fun s : S_law => s.v_number) (fun _ => rfl)) (av_a (pv_var (i := 3) (fun s : S_law => s.v_base) (fun _ => rfl)) av_nil)) (fun _ => ⟨2, rfl, rfl⟩))))) (PV.ab (pv_repr rfl (hu64 hr) (by rfl) T.z_repr (PV.ab (pv_ixS (PV.ab (pv_calla (ok__law_write T) (hr.mono (by decide)) (by rfl) T.m__law_write T.F__law_write.kp T.b__law_write (av_a (pv_var (i := 4) (fun s : S_law => s.v_whole) (fun _ => rfl)) (av_a (pv_var (i := 3) (fun s : S_law => s.v_base) (fun _ => rfl)) av_nil)) (fun _ => ⟨1, rfl, rfl⟩))) (PV.ab (pv_sub (PV.ab (pv_sub (PV.ab (pv_lenS (by rfl) T.z_len (PV.ab (pv_calla (ok__law_write T) (hr.mono (by decide)) (by rfl) T.m__law_write T.F__law_write.kp T.b__law_write (av_a (pv_var (i := 4) (fun s : S_law => s.v_whole) (fun _ => rfl)) (av_a (pv_var (i := 3) (fun s : S_law => s.v_base) (fun _ => rfl)) av_nil)) (fun _ => ⟨1, rfl, rfl⟩))))) (PV.ab pv_int))) (PV.ab (pv_var (i := 11) (fun s : S_law => s.v_due) (fun _ => rfl)))))))))))))
  (bv_cons (sl'' := sl_law_4) (sv_ret pv_bool)
  (bv_nil (sl := sl_law_4) (h := fun s => s) (fun _ => Wk.refl _)))
  (bv_nil (h := fun (s : S_law) => (s : S_law)) (fun _ => (.s (.s (.s (.s (.s (.s (.s (.s (.s (.s (.s (.s (.s (.s (.s .nil))))))))))))))))))
  (bv_cons (sl'' := sl_law_4) (sv_set (i := 5) (fun (s : S_law) t => { s with v_last := t }) (fun _ _ => rfl) nd (pv_var (i := 11) (fun s : S_law => s.v_due) (fun _ => rfl)))
  (bv_cons (sl'' := sl_law_4) (sv_app (i := 7) (fun s : S_law => s.v_table) (fun s t => { s with v_table := t }) (fun _ => rfl) (fun _ _ => rfl) (pv_var (i := 11) (fun s : S_law => s.v_due) (fun _ => rfl)))
  (bv_nil (h := fun (s : S_law) => ({ s with v_number := 0, v_due := 0 } : S_law)) (fun _ => (.s (.s (.s (.s (.s (.s (.s (.s (.d (.s (.s (.d (.s (.s (.s .nil))))))))))))))))))))))))
  (bv_cons (sl'' := sl_law_6) (sv_for (sl := sl_law_6) PassesOwn.never (piv_range1 (by rfl) T.z_range (PV.ab (pv_var (i := 5) (fun s : S_law => s.v_last) (fun _ => rfl)))) (gv_name (i := 9) (slb := sl_law_10) (set := (fun (s : S_law) (t : Int) => { s with v_many := t })) (fun _ _ => rfl) nd)
  (bv_cons (sl'' := sl_law_9) (by
    apply sv_setLc (i := 12) (own := [("number", 8)]) (js := [8]) (slb := (fun s : (S_law × Int) => ([some (Mo.b, enc s.1.v_script), some (Mo.a, enc s.1.v_draws), some (Mo.a, enc s.1.v_turn), some (Mo.a, enc s.1.v_base), some (Mo.a, enc s.1.v_whole), some (Mo.a, enc s.1.v_last), some (Mo.a, enc s.1.v_most), some (Mo.b, enc s.1.v_table), some (Mo.a, enc s.2), some (Mo.a, enc s.1.v_many), none, none, none, none, none] : Sl))) (set := fun (g : S_law) (t : Int) => ((g, t) : (S_law × Int)))
    case h => exact fun _ _ => rfl
    case hN => exact nd
    case hi => exact (IV.ab (piv_range1 (by rfl) T.z_range (PV.ab (pv_add (PV.ab (pv_var (i := 6) (fun s : S_law => s.v_most) (fun _ => rfl))) (PV.ab pv_int)))))
    case ok => exact (blkOk_by (N := N_law) (sc := defScope s_law) (by decide +kernel))
    case hj => decide
    case hg => exact (fun _ _ _ _ _ => (gv_name (i := 8) (fun _ _ => rfl) nd))
    case ht => exact (fun _ _ _ _ _ => pbs_one (pb_cmp c_eqS (PV.ab (pv_ix (pv_varb (i := 7) (fun s : (S_law × Int) => s.1.v_table) (fun _ => rfl)) (PV.ab (pv_var (i := 8) (fun s : (S_law × Int) => s.2) (fun _ => rfl))))) (PV.ab (pv_var (i := 9) (fun s : (S_law × Int) => s.1.v_many) (fun _ => rfl)))))
    case he => exact (fun _ _ _ _ _ => (pv_var (i := 8) (fun s : (S_law × Int) => s.2) (fun _ => rfl))))
  (bv_cons (sl'' := sl_law_8) (sv_set (i := 10) (fun (s : S_law) t => { s with v_told := t }) (fun _ _ => rfl) nd (pv_calla (ok_products_with T) (hr.mono (by decide)) (by rfl) T.m_products_with T.F_products_with.kp T.b_products_with (av_a (pv_var (i := 9) (fun s : S_law => s.v_many) (fun _ => rfl)) (av_a (pv_var (i := 3) (fun s : S_law => s.v_base) (fun _ => rfl)) av_nil)) (fun _ => ⟨2, rfl, rfl⟩)))
  (bv_cons (sl'' := sl_law_7) (sv_set (i := 11) (fun (s : S_law) t => { s with v_due__v2 := t }) (fun _ _ => rfl) nd (pv_noneO (τ := (T2 Int Int))))
  (bv_cons (sl'' := sl_law_7) (sv_if (pb_cmp (c_neD (hu64 hr)) (PV.ab (pv_var (i := 12) (fun s : S_law => s.v_good) (fun _ => rfl))) (PV.fb (pv_lst (pal_nil (τ := Int)))))
  (bv_cons (sl'' := sl_law_7) (sv_set (i := 11) (fun (s : S_law) t => { s with v_due__v2 := t }) (fun _ _ => rfl) nd (PV.opt (pv_tup2 (pv_ix (PV.ab (pv_var (i := 12) (fun s : S_law => s.v_good) (fun _ => rfl))) (PV.ab pv_int)) (pv_len (by rfl) T.z_len (PV.ab (pv_var (i := 12) (fun s : S_law => s.v_good) (fun _ => rfl)))))))
  (bv_nil (h := fun (s : S_law) => (s : S_law)) (fun _ => (.s (.s (.s (.s (.s (.s (.s (.s (.s (.s (.s (.s (.s (.s (.s .nil))))))))))))))))))
  (bv_nil (h := fun (s : S_law) => (s : S_law)) (fun _ => (.s (.s (.s (.s (.s (.s (.s (.s (.s (.s (.s (.s (.s (.s (.s .nil))))))))))))))))))
  (bv_cons (sl'' := sl_law_7) (sv_if (pb_cmp c_neS (PV.ab (pv_repr rfl (hu64 hr) (by rfl) T.z_repr (PV.ab (pv_var (i := 10) (fun s : S_law => s.v_told) (fun _ => rfl))))) (PV.ab (pv_repr rfl (hu64 hr) (by rfl) T.z_repr (PV.ab (pv_var (i := 11) (fun s : S_law => s.v_due__v2) (fun _ => rfl))))))
  (bv_cons (sl'' := sl_law_7) (sv_ret pv_bool)
  (bv_nil (sl := sl_law_7) (h := fun s => s) (fun _ => Wk.refl _)))
  (bv_nil (h := fun (s : S_law) => (s : S_law)) (fun _ => (.s (.s (.s (.s (.s (.s (.s (.s (.s (.s (.s (.s (.s (.s (.s .nil))))))))))))))))))
  (bv_nil (h := fun (s : S_law) => ({ s with v_many := 0, v_told := none, v_due__v2 := none, v_good := [] } : S_law)) (fun _ => (.s (.s (.s (.s (.s (.s (.s (.s (.s (.d (.d (.d (.d (.s (.s .nil)))))))))))))))))))))))
  (bv_cons (sl'' := sl_law_5) (sv_set (i := 8) (fun (s : S_law) t => { s with v_number := t }) (fun _ _ => rfl) nd (pv_add (PV.ab pv_int) (PV.ab (pv_mul (PV.ab (pv_calla (ok__law_mix T) (hr.mono (by decide)) (by rfl) T.m__law_mix T.F__law_mix.kp T.b__law_mix (av_b (PV.ab (pv_var (i := 1) (fun s : S_law => s.v_draws) (fun _ => rfl))) (av_a (pv_add (PV.ab pv_int) (PV.ab (pv_var (i := 2) (fun s : S_law => s.v_turn) (fun _ => rfl)))) (av_a pv_int av_nil))) (fun _ => ⟨1, rfl, rfl⟩))) (PV.ab (pv_ix (PV.fb (pv_lst (pal_cons pv_int (pal_cons pv_int (pal_nil (τ := Int)))))) (PV.ab (pv_calla (ok__law_mix T) (hr.mono (by decide)) (by rfl) T.m__law_mix T.F__law_mix.kp T.b__law_mix (av_b (PV.ab (pv_var (i := 1) (fun s : S_law => s.v_draws) (fun _ => rfl))) (av_a (pv_add (PV.ab pv_int) (PV.ab (pv_var (i := 2) (fun s : S_law => s.v_turn) (fun _ => rfl)))) (av_a pv_int av_nil))) (fun _ => ⟨1, rfl, rfl⟩)))))))))
  (bv_cons (sl'' := sl_law_5) (sv_if (PBw.pb (pb_or (pb_cmp c_neS (PV.ab (pv_calla (ok_zeros_of_product T) (hr.mono (by decide)) (by rfl) T.m_zeros_of_product T.F_zeros_of_product.kp T.b_zeros_of_product (av_a (pv_var (i := 8) (fun s : S_law => s.v_number) (fun _ => rfl)) (av_a (pv_var (i := 3) (fun s : S_law => s.v_base) (fun _ => rfl)) av_nil)) (fun _ => ⟨0, rfl, rfl⟩))) (PV.ab (pv_calla (ok__law_due T) (hr.mono (by decide)) (by rfl) T.m__law_due T.F__law_due.kp T.b__law_due (av_a (pv_var (i := 8) (fun s : S_law => s.v_number) (fun _ => rfl)) (av_a (pv_var (i := 3) (fun s : S_law => s.v_base) (fun _ => rfl)) av_nil)) (fun _ => ⟨5, rfl, rfl⟩)))) (pb_or1 (pb_cmp c_neS (PV.ab (pv_calla (ok_zeros T) (hr.mono (by decide)) (by rfl) T.m_zeros T.F_zeros.kp T.b_zeros (av_a (pv_var (i := 8) (fun s : S_law => s.v_number) (fun _ => rfl)) (av_a (pv_var (i := 3) (fun s : S_law => s.v_base) (fun _ => rfl)) av_nil)) (fun _ => ⟨0, rfl, rfl⟩))) (PV.ab (pv_calla (ok__law_zeros T) (hr.mono (by decide)) (by rfl) T.m__law_zeros T.F__law_zeros.kp T.b__law_zeros (av_a (pv_var (i := 8) (fun s : S_law => s.v_number) (fun _ => rfl)) (av_a (pv_var (i := 3) (fun s : S_law => s.v_base) (fun _ => rfl)) av_nil)) (fun _ => ⟨2, rfl, rfl⟩)))))))
  (bv_cons (sl'' := sl_law_5) (sv_ret pv_bool)
  (bv_nil (sl := sl_law_5) (h := fun s => s) (fun _ => Wk.refl _)))
  (bv_nil (h := fun (s : S_law) => (s : S_law)) (fun _ => (.s (.s (.s (.s (.s (.s (.s (.s (.s (.s (.s (.s (.s (.s (.s .nil))))))))))))))))))
  (bv_cons (sl'' := sl_law_5) (sv_if (PBw.pb (pb_or (pb_cmp c_neS (PV.ab (pv_calla (ok_zeros T) (hr.mono (by decide)) (by rfl) T.m_zeros T.F_zeros.kp T.b_zeros (av_a (pv_div (PV.ab (pv_mul (PV.ab (pv_var (i := 8) (fun s : S_law => s.v_number) (fun _ => rfl))) (PV.ab (pv_var (i := 3) (fun s : S_law => s.v_base) (fun _ => rfl))))) (PV.ab (pv_var (i := 3) (fun s : S_law => s.v_base) (fun _ => rfl)))) (av_a (pv_var (i := 3) (fun s : S_law => s.v_base) (fun _ => rfl)) av_nil)) (fun _ => ⟨0, rfl, rfl⟩))) (PV.ab (pv_calla (ok__law_zeros T) (hr.mono (by decide)) (by rfl) T.m__law_zeros T.F__law_zeros.kp T.b__law_zeros (av_a (pv_var (i := 8) (fun s : S_law => s.v_number) (fun _ => rfl)) (av_a (pv_var (i := 3) (fun s : S_law => s.v_base) (fun _ => rfl)) av_nil)) (fun _ => ⟨2, rfl, rfl⟩)))) (pb_or1 (PBw.pb (pb_and (pb_cmp c_le (PV.ab (pv_mul (PV.ab (pv_var (i := 8) (fun s : S_law => s.v_number) (fun _ => rfl))) (PV.ab (pv_var (i := 3) (fun s : S_law => s.v_base) (fun _ => rfl))))) (PV.ab pv_int)) (pb_and1 (pb_cmp c_neS (PV.ab (pv_calla (ok_zeros T) (hr.mono (by decide)) (by rfl) T.m_zeros T.F_zeros.kp T.b_zeros (av_a (pv_mul (PV.ab (pv_var (i := 8) (fun s : S_law => s.v_number) (fun _ => rfl))) (PV.ab (pv_var (i := 3) (fun s : S_law => s.v_base) (fun _ => rfl)))) (av_a (pv_var (i := 3) (fun s : S_law => s.v_base) (fun _ => rfl)) av_nil)) (fun _ => ⟨0, rfl, rfl⟩))) (PV.ab (pv_add (PV.ab pv_int) (PV.ab (pv_calla (ok_zeros T) (hr.mono (by decide)) (by rfl) T.m_zeros T.F_zeros.kp T.b_zeros (av_a (pv_var (i := 8) (fun s : S_law => s.v_number) (fun _ => rfl)) (av_a (pv_var (i := 3) (fun s : S_law => s.v_base) (fun _ => rfl)) av_nil)) (fun _ => ⟨0, rfl, rfl⟩))))))))))))
  (bv_cons (sl'' := sl_law_5) (sv_ret pv_bool)
  (bv_nil (sl := sl_law_5) (h := fun s => s) (fun _ => Wk.refl _)))
  (bv_nil (h := fun (s : S_law) => (s : S_law)) (fun _ => (.s (.s (.s (.s (.s (.s (.s (.s (.s (.s (.s (.s (.s (.s (.s .nil))))))))))))))))))
  (bv_cons (sl'' := sl_law_12) (sv_set (i := 9) (fun (s : S_law) t => { s with v_many := t }) (fun _ _ => rfl) nd (pv_calla (ok__law_mix T) (hr.mono (by decide)) (by rfl) T.m__law_mix T.F__law_mix.kp T.b__law_mix (av_b (PV.ab (pv_var (i := 1) (fun s : S_law => s.v_draws) (fun _ => rfl))) (av_a (pv_add (PV.ab pv_int) (PV.ab (pv_var (i := 2) (fun s : S_law => s.v_turn) (fun _ => rfl)))) (av_a pv_int av_nil))) (fun _ => ⟨1, rfl, rfl⟩)))
  (bv_cons (sl'' := sl_law_11) (sv_set (i := 10) (fun (s : S_law) t => { s with v_told := t }) (fun _ _ => rfl) nd (pv_calla (ok_products_with T) (hr.mono (by decide)) (by rfl) T.m_products_with T.F_products_with.kp T.b_products_with (av_a (pv_var (i := 9) (fun s : S_law => s.v_many) (fun _ => rfl)) (av_a (pv_var (i := 3) (fun s : S_law => s.v_base) (fun _ => rfl)) av_nil)) (fun _ => ⟨2, rfl, rfl⟩)))
  (bv_cons (sl'' := sl_law_11) (sv_if (pb_cmp c_isnt (PV.ab (pv_var (i := 10) (fun s : S_law => s.v_told) (fun _ => rfl))) (PV.ab pv_none))
  (bv_cons (sl'' := sl_law_3) (sv_tup (gv_tup (fun t : (T2 Int Int) => [enc t.a, enc t.b]) (fun _ => rfl) (fun _ => rfl) (gvs_cons (p1 := fun t : (T2 Int Int) => t.a) (p2 := fun t : (T2 Int Int) => t) (gv_name (i := 13) (slb := sl_law_2) (set := fun (s : S_law) (t : Int) => { s with v_first := t }) (fun _ _ => rfl) nd) (gvs_cons (p1 := fun t : (T2 Int Int) => t.b) (p2 := fun t : (T2 Int Int) => t) (gv_name (i := 14) (slb := sl_law_3) (set := fun (s : S_law) (t : Int) => { s with v_size := t }) (fun _ _ => rfl) nd) gvs_nil))) (PV.cast (pv_var (i := 10) (fun s : S_law => s.v_told) (fun _ => rfl))))
  (bv_cons (sl'' := sl_law_3) (sv_if (PBw.pb (pb_or (pb_cmp c_lt (PV.ab (pv_var (i := 14) (fun s : S_law => s.v_size) (fun _ => rfl))) (PV.ab pv_int)) (pb_or (pb_cmp c_neS (PV.ab (pv_calla (ok__law_due T) (hr.mono (by decide)) (by rfl) T.m__law_due T.F__law_due.kp T.b__law_due (av_a (pv_var (i := 13) (fun s : S_law => s.v_first) (fun _ => rfl)) (av_a (pv_var (i := 3) (fun s : S_law => s.v_base) (fun _ => rfl)) av_nil)) (fun _ => ⟨5, rfl, rfl⟩))) (PV.ab (pv_var (i := 9) (fun s : S_law => s.v_many) (fun _ => rfl)))) (pb_or (pb_cmp c_neS (PV.ab (pv_calla (ok__law_due T) (hr.mono (by decide)) (by rfl) T.m__law_due T.F__law_due.kp T.b__law_due (av_a (pv_sub (PV.ab (pv_add (PV.ab (pv_var (i := 13) (fun s : S_law => s.v_first) (fun _ => rfl))) (PV.ab (pv_var (i := 14) (fun s : S_law => s.v_size) (fun _ => rfl))))) (PV.ab pv_int)) (av_a (pv_var (i := 3) (fun s : S_law => s.v_base) (fun _ => rfl)) av_nil)) (fun _ => ⟨5, rfl, rfl⟩))) (PV.ab (pv_var (i := 9) (fun s : S_law => s.v_many) (fun _ => rfl)))) (pb_or1 (pb_cmp c_eqS (PV.ab (pv_calla (ok__law_due T) (hr.mono (by decide)) (by rfl) T.m__law_due T.F__law_due.kp T.b__law_due (av_a (pv_add (PV.ab (pv_var (i := 13) (fun s : S_law => s.v_first) (fun _ => rfl))) (PV.ab (pv_var (i := 14) (fun s : S_law => s.v_size) (fun _ => rfl)))) (av_a (pv_var (i := 3) (fun s : S_law => s.v_base) (fun _ => rfl)) av_nil)) (fun _ => ⟨5, rfl, rfl⟩))) (PV.ab (pv_var (i := 9) (fun s : S_law => s.v_many) (fun _ => rfl)))))))))
  (bv_cons (sl'' := sl_law_3) (sv_ret pv_bool)
  (bv_nil (sl := sl_law_3) (h := fun s => s) (fun _ => Wk.refl _)))
  (bv_nil (h := fun (s : S_law) => (s : S_law)) (fun _ => (.s (.s (.s (.s (.s (.s (.s (.s (.s (.s (.s (.s (.s (.s (.s .nil))))))))))))))))))
  (bv_cons (sl'' := sl_law_3) (sv_if (PBw.pb (pb_and (pb_cmp c_gt (PV.ab (pv_var (i := 13) (fun s : S_law => s.v_first) (fun _ => rfl))) (PV.ab pv_int)) (pb_and1 (pb_cmp c_eqS (PV.ab (pv_calla (ok__law_due T) (hr.mono (by decide)) (by rfl) T.m__law_due T.F__law_due.kp T.b__law_due (av_a (pv_sub (PV.ab (pv_var (i := 13) (fun s : S_law => s.v_first) (fun _ => rfl))) (PV.ab pv_int)) (av_a (pv_var (i := 3) (fun s : S_law => s.v_base) (fun _ => rfl)) av_nil)) (fun _ => ⟨5, rfl, rfl⟩))) (PV.ab (pv_var (i := 9) (fun s : S_law => s.v_many) (fun _ => rfl)))))))
  (bv_cons (sl'' := sl_law_3) (sv_ret pv_bool)
  (bv_nil (sl := sl_law_3) (h := fun s => s) (fun _ => Wk.refl _)))
  (bv_nil (h := fun (s : S_law) => (s : S_law)) (fun _ => (.s (.s (.s (.s (.s (.s (.s (.s (.s (.s (.s (.s (.s (.s (.s .nil))))))))))))))))))
  (bv_nil (h := fun (s : S_law) => ({ s with v_first := 0, v_size := 0 } : S_law)) (fun _ => (.s (.s (.s (.s (.s (.s (.s (.s (.s (.s (.s (.s (.s (.d (.d .nil))))))))))))))))))))
  (bv_nil (h := fun (s : S_law) => (s : S_law)) (fun _ => (.s (.s (.s (.s (.s (.s (.s (.s (.s (.s (.s (.s (.s (.s (.s .nil))))))))))))))))))
  (bv_nil (h := fun (s : S_law) => ({ s with v_turn := 0, v_base := 0, v_whole := 0, v_last := 0, v_most := 0, v_table := [], v_number := 0, v_many := 0, v_told := none } : S_law)) (fun _ => (.s (.s (.d (.d (.d (.d (.d (.d (.d (.d (.d (.s (.s (.s (.s .nil))))))))))))))))))))))))))))))
  (bv_cons (sl'' := sl_law_16) (sv_if (PBw.pb (pb_or (pb_cmp c_isnt (PV.ab (pv_calla (ok_products_with T) (hr.mono (by decide)) (by rfl) T.m_products_with T.F_products_with.kp T.b_products_with (av_a pv_int (av_a pv_int av_nil)) (fun _ => ⟨2, rfl, rfl⟩))) (PV.ab pv_none)) (pb_or (pb_cmp (c_neD (hu64 hr)) (PV.ab (pv_calla (ok_products_with T) (hr.mono (by decide)) (by rfl) T.m_products_with T.F_products_with.kp T.b_products_with (av_a pv_int (av_a pv_int av_nil)) (fun _ => ⟨2, rfl, rfl⟩))) (PV.ab (PV.opt (pv_tup2 pv_int pv_int)))) (pb_or1 (pb_cmp (c_neD (hu64 hr)) (PV.ab (pv_calla (ok_products_with T) (hr.mono (by decide)) (by rfl) T.m_products_with T.F_products_with.kp T.b_products_with (av_a pv_int (av_a pv_int av_nil)) (fun _ => ⟨2, rfl, rfl⟩))) (PV.ab (PV.opt (pv_tup2 pv_int pv_int))))))))
  (bv_cons (sl'' := sl_law_16) (sv_ret pv_bool)
  (bv_nil (sl := sl_law_16) (h := fun s => s) (fun _ => Wk.refl _)))
  (bv_nil (h := fun (s : S_law) => (s : S_law)) (fun _ => (.s (.s (.s (.s (.s (.s (.s (.s (.s (.s (.s (.s (.s (.s (.s .nil))))))))))))))))))
  (bv_cons (sl'' := sl_law_17) (sv_ret (pv_and (pv_cmp c_eqS (PV.ab (pv_calla (ok_zeros_of_product T) (hr.mono (by decide)) (by rfl) T.m_zeros_of_product T.F_zeros_of_product.kp T.b_zeros_of_product (av_a pv_int (av_a pv_int av_nil)) (fun _ => ⟨0, rfl, rfl⟩))) (PV.ab pv_int)) (pv_one (pv_cmp c_eqS (PV.ab (pv_calla (ok_last_of_product T) (hr.mono (by decide)) (by rfl) T.m_last_of_product T.F_last_of_product.kp T.b_last_of_product (av_a pv_int (av_a pv_int av_nil)) (fun _ => ⟨2, rfl, rfl⟩))) (PV.ab (pv_str [56]))))))
  (bv_nil (sl := sl_law_17) (h := fun s => s) (fun _ => Wk.refl _)))))))
theorem mk_top {h : Heap} {fa : Addr} (X : K.In h) (G : h.Ns mainGlobals mg) (hfa : mg "law" = some (.ref fa))
    {x__law_draws : Addr} {od__law_draws an__law_draws : Option Addr} {osl__law_draws : Array (Option Value)} {oc__law_draws kV__law_draws dc__law_draws pm__law_draws cd__law_draws ct__law_draws : Value}
    (a__law_draws : PySem.W.nsIn K mainGlobals "_law_draws" = some (some (.ref x__law_draws))) (l__law_draws : K.lookup x__law_draws = some ⟨oc__law_draws, od__law_draws, .func (PySem.W.fnOf "_law_draws" "_law_draws" (defArgs s__law_draws) (defBody s__law_draws) (defScope s__law_draws) .none kV__law_draws dc__law_draws pm__law_draws an__law_draws cd__law_draws ct__law_draws), osl__law_draws⟩) (c__law_draws : PySem.W.codeIn K cd__law_draws "_law_draws" = true) (k__law_draws : PySem.W.keepIn K (.ref x__law_draws) = true)
    {x__law_mix : Addr} {od__law_mix an__law_mix : Option Addr} {osl__law_mix : Array (Option Value)} {oc__law_mix kV__law_mix dc__law_mix pm__law_mix cd__law_mix ct__law_mix : Value}
    (a__law_mix : PySem.W.nsIn K mainGlobals "_law_mix" = some (some (.ref x__law_mix))) (l__law_mix : K.lookup x__law_mix = some ⟨oc__law_mix, od__law_mix, .func (PySem.W.fnOf "_law_mix" "_law_mix" (defArgs s__law_mix) (defBody s__law_mix) (defScope s__law_mix) .none kV__law_mix dc__law_mix pm__law_mix an__law_mix cd__law_mix ct__law_mix), osl__law_mix⟩) (c__law_mix : PySem.W.codeIn K cd__law_mix "_law_mix" = true) (k__law_mix : PySem.W.keepIn K (.ref x__law_mix) = true)
    {x_check_base : Addr} {od_check_base an_check_base : Option Addr} {osl_check_base : Array (Option Value)} {oc_check_base kV_check_base dc_check_base pm_check_base cd_check_base ct_check_base : Value}
    (a_check_base : PySem.W.nsIn K mainGlobals "check_base" = some (some (.ref x_check_base))) (l_check_base : K.lookup x_check_base = some ⟨oc_check_base, od_check_base, .func (PySem.W.fnOf "check_base" "check_base" (defArgs s_check_base) (defBody s_check_base) (defScope s_check_base) .none kV_check_base dc_check_base pm_check_base an_check_base cd_check_base ct_check_base), osl_check_base⟩) (c_check_base : PySem.W.codeIn K cd_check_base "check_base" = true) (k_check_base : PySem.W.keepIn K (.ref x_check_base) = true)
    {x_check_numbers : Addr} {od_check_numbers an_check_numbers : Option Addr} {osl_check_numbers : Array (Option Value)} {oc_check_numbers kV_check_numbers dc_check_numbers pm_check_numbers cd_check_numbers ct_check_numbers : Value}
    (a_check_numbers : PySem.W.nsIn K mainGlobals "check_numbers" = some (some (.ref x_check_numbers))) (l_check_numbers : K.lookup x_check_numbers = some ⟨oc_check_numbers, od_check_numbers, .func (PySem.W.fnOf "check_numbers" "check_numbers" (defArgs s_check_numbers) (defBody s_check_numbers) (defScope s_check_numbers) .none kV_check_numbers dc_check_numbers pm_check_numbers an_check_numbers cd_check_numbers ct_check_numbers), osl_check_numbers⟩) (c_check_numbers : PySem.W.codeIn K cd_check_numbers "check_numbers" = true) (k_check_numbers : PySem.W.keepIn K (.ref x_check_numbers) = true)
    {x_power_in : Addr} {od_power_in an_power_in : Option Addr} {osl_power_in : Array (Option Value)} {oc_power_in kV_power_in dc_power_in pm_power_in cd_power_in ct_power_in : Value}
    (a_power_in : PySem.W.nsIn K mainGlobals "power_in" = some (some (.ref x_power_in))) (l_power_in : K.lookup x_power_in = some ⟨oc_power_in, od_power_in, .func (PySem.W.fnOf "power_in" "power_in" (defArgs s_power_in) (defBody s_power_in) (defScope s_power_in) .none kV_power_in dc_power_in pm_power_in an_power_in cd_power_in ct_power_in), osl_power_in⟩) (c_power_in : PySem.W.codeIn K cd_power_in "power_in" = true) (k_power_in : PySem.W.keepIn K (.ref x_power_in) = true)
    {x_primes_of : Addr} {od_primes_of an_primes_of : Option Addr} {osl_primes_of : Array (Option Value)} {oc_primes_of kV_primes_of dc_primes_of pm_primes_of cd_primes_of ct_primes_of : Value}
    (a_primes_of : PySem.W.nsIn K mainGlobals "primes_of" = some (some (.ref x_primes_of))) (l_primes_of : K.lookup x_primes_of = some ⟨oc_primes_of, od_primes_of, .func (PySem.W.fnOf "primes_of" "primes_of" (defArgs s_primes_of) (defBody s_primes_of) (defScope s_primes_of) .none kV_primes_of dc_primes_of pm_primes_of an_primes_of cd_primes_of ct_primes_of), osl_primes_of⟩) (c_primes_of : PySem.W.codeIn K cd_primes_of "primes_of" = true) (k_primes_of : PySem.W.keepIn K (.ref x_primes_of) = true)
    {x_product_zeros : Addr} {od_product_zeros an_product_zeros : Option Addr} {osl_product_zeros : Array (Option Value)} {oc_product_zeros kV_product_zeros dc_product_zeros pm_product_zeros cd_product_zeros ct_product_zeros : Value}
    (a_product_zeros : PySem.W.nsIn K mainGlobals "product_zeros" = some (some (.ref x_product_zeros))) (l_product_zeros : K.lookup x_product_zeros = some ⟨oc_product_zeros, od_product_zeros, .func (PySem.W.fnOf "product_zeros" "product_zeros" (defArgs s_product_zeros) (defBody s_product_zeros) (defScope s_product_zeros) .none kV_product_zeros dc_product_zeros pm_product_zeros an_product_zeros cd_product_zeros ct_product_zeros), osl_product_zeros⟩) (c_product_zeros : PySem.W.codeIn K cd_product_zeros "product_zeros" = true) (k_product_zeros : PySem.W.keepIn K (.ref x_product_zeros) = true)
    {x_least_with : Addr} {od_least_with an_least_with : Option Addr} {osl_least_with : Array (Option Value)} {oc_least_with kV_least_with dc_least_with pm_least_with cd_least_with ct_least_with : Value}
    (a_least_with : PySem.W.nsIn K mainGlobals "least_with" = some (some (.ref x_least_with))) (l_least_with : K.lookup x_least_with = some ⟨oc_least_with, od_least_with, .func (PySem.W.fnOf "least_with" "least_with" (defArgs s_least_with) (defBody s_least_with) (defScope s_least_with) .none kV_least_with dc_least_with pm_least_with an_least_with cd_least_with ct_least_with), osl_least_with⟩) (c_least_with : PySem.W.codeIn K cd_least_with "least_with" = true) (k_least_with : PySem.W.keepIn K (.ref x_least_with) = true)
    {x_products_with : Addr} {od_products_with an_products_with : Option Addr} {osl_products_with : Array (Option Value)} {oc_products_with kV_products_with dc_products_with pm_products_with cd_products_with ct_products_with : Value}
    (a_products_with : PySem.W.nsIn K mainGlobals "products_with" = some (some (.ref x_products_with))) (l_products_with : K.lookup x_products_with = some ⟨oc_products_with, od_products_with, .func (PySem.W.fnOf "products_with" "products_with" (defArgs s_products_with) (defBody s_products_with) (defScope s_products_with) .none kV_products_with dc_products_with pm_products_with an_products_with cd_products_with ct_products_with), osl_products_with⟩) (c_products_with : PySem.W.codeIn K cd_products_with "products_with" = true) (k_products_with : PySem.W.keepIn K (.ref x_products_with) = true)
    {x__law_signs : Addr} {od__law_signs an__law_signs : Option Addr} {osl__law_signs : Array (Option Value)} {oc__law_signs kV__law_signs dc__law_signs pm__law_signs cd__law_signs ct__law_signs : Value}
    (a__law_signs : PySem.W.nsIn K mainGlobals "_law_signs" = some (some (.ref x__law_signs))) (l__law_signs : K.lookup x__law_signs = some ⟨oc__law_signs, od__law_signs, .func (PySem.W.fnOf "_law_signs" "_law_signs" (defArgs s__law_signs) (defBody s__law_signs) (defScope s__law_signs) .none kV__law_signs dc__law_signs pm__law_signs an__law_signs cd__law_signs ct__law_signs), osl__law_signs⟩) (c__law_signs : PySem.W.codeIn K cd__law_signs "_law_signs" = true) (k__law_signs : PySem.W.keepIn K (.ref x__law_signs) = true)
    {x__law_write : Addr} {od__law_write an__law_write : Option Addr} {osl__law_write : Array (Option Value)} {oc__law_write kV__law_write dc__law_write pm__law_write cd__law_write ct__law_write : Value}
    (a__law_write : PySem.W.nsIn K mainGlobals "_law_write" = some (some (.ref x__law_write))) (l__law_write : K.lookup x__law_write = some ⟨oc__law_write, od__law_write, .func (PySem.W.fnOf "_law_write" "_law_write" (defArgs s__law_write) (defBody s__law_write) (defScope s__law_write) .none kV__law_write dc__law_write pm__law_write an__law_write cd__law_write ct__law_write), osl__law_write⟩) (c__law_write : PySem.W.codeIn K cd__law_write "_law_write" = true) (k__law_write : PySem.W.keepIn K (.ref x__law_write) = true)
    {x__law_zeros : Addr} {od__law_zeros an__law_zeros : Option Addr} {osl__law_zeros : Array (Option Value)} {oc__law_zeros kV__law_zeros dc__law_zeros pm__law_zeros cd__law_zeros ct__law_zeros : Value}
    (a__law_zeros : PySem.W.nsIn K mainGlobals "_law_zeros" = some (some (.ref x__law_zeros))) (l__law_zeros : K.lookup x__law_zeros = some ⟨oc__law_zeros, od__law_zeros, .func (PySem.W.fnOf "_law_zeros" "_law_zeros" (defArgs s__law_zeros) (defBody s__law_zeros) (defScope s__law_zeros) .none kV__law_zeros dc__law_zeros pm__law_zeros an__law_zeros cd__law_zeros ct__law_zeros), osl__law_zeros⟩) (c__law_zeros : PySem.W.codeIn K cd__law_zeros "_law_zeros" = true) (k__law_zeros : PySem.W.keepIn K (.ref x__law_zeros) = true)
    {x_zeros_of_product : Addr} {od_zeros_of_product an_zeros_of_product : Option Addr} {osl_zeros_of_product : Array (Option Value)} {oc_zeros_of_product kV_zeros_of_product dc_zeros_of_product pm_zeros_of_product cd_zeros_of_product ct_zeros_of_product : Value}
    (a_zeros_of_product : PySem.W.nsIn K mainGlobals "zeros_of_product" = some (some (.ref x_zeros_of_product))) (l_zeros_of_product : K.lookup x_zeros_of_product = some ⟨oc_zeros_of_product, od_zeros_of_product, .func (PySem.W.fnOf "zeros_of_product" "zeros_of_product" (defArgs s_zeros_of_product) (defBody s_zeros_of_product) (defScope s_zeros_of_product) .none kV_zeros_of_product dc_zeros_of_product pm_zeros_of_product an_zeros_of_product cd_zeros_of_product ct_zeros_of_product), osl_zeros_of_product⟩) (c_zeros_of_product : PySem.W.codeIn K cd_zeros_of_product "zeros_of_product" = true) (k_zeros_of_product : PySem.W.keepIn K (.ref x_zeros_of_product) = true)
    {x_last_of_product : Addr} {od_last_of_product an_last_of_product : Option Addr} {osl_last_of_product : Array (Option Value)} {oc_last_of_product kV_last_of_product dc_last_of_product pm_last_of_product cd_last_of_product ct_last_of_product : Value}
    (a_last_of_product : PySem.W.nsIn K mainGlobals "last_of_product" = some (some (.ref x_last_of_product))) (l_last_of_product : K.lookup x_last_of_product = some ⟨oc_last_of_product, od_last_of_product, .func (PySem.W.fnOf "last_of_product" "last_of_product" (defArgs s_last_of_product) (defBody s_last_of_product) (defScope s_last_of_product) .none kV_last_of_product dc_last_of_product pm_last_of_product an_last_of_product cd_last_of_product ct_last_of_product), osl_last_of_product⟩) (c_last_of_product : PySem.W.codeIn K cd_last_of_product "last_of_product" = true) (k_last_of_product : PySem.W.keepIn K (.ref x_last_of_product) = true)
    {x__law_primes : Addr} {od__law_primes an__law_primes : Option Addr} {osl__law_primes : Array (Option Value)} {oc__law_primes kV__law_primes dc__law_primes pm__law_primes cd__law_primes ct__law_primes : Value}
    (a__law_primes : PySem.W.nsIn K mainGlobals "_law_primes" = some (some (.ref x__law_primes))) (l__law_primes : K.lookup x__law_primes = some ⟨oc__law_primes, od__law_primes, .func (PySem.W.fnOf "_law_primes" "_law_primes" (defArgs s__law_primes) (defBody s__law_primes) (defScope s__law_primes) .none kV__law_primes dc__law_primes pm__law_primes an__law_primes cd__law_primes ct__law_primes), osl__law_primes⟩) (c__law_primes : PySem.W.codeIn K cd__law_primes "_law_primes" = true) (k__law_primes : PySem.W.keepIn K (.ref x__law_primes) = true)
    {x__law_due : Addr} {od__law_due an__law_due : Option Addr} {osl__law_due : Array (Option Value)} {oc__law_due kV__law_due dc__law_due pm__law_due cd__law_due ct__law_due : Value}
    (a__law_due : PySem.W.nsIn K mainGlobals "_law_due" = some (some (.ref x__law_due))) (l__law_due : K.lookup x__law_due = some ⟨oc__law_due, od__law_due, .func (PySem.W.fnOf "_law_due" "_law_due" (defArgs s__law_due) (defBody s__law_due) (defScope s__law_due) .none kV__law_due dc__law_due pm__law_due an__law_due cd__law_due ct__law_due), osl__law_due⟩) (c__law_due : PySem.W.codeIn K cd__law_due "_law_due" = true) (k__law_due : PySem.W.keepIn K (.ref x__law_due) = true)
    {x_zeros_of : Addr} {od_zeros_of an_zeros_of : Option Addr} {osl_zeros_of : Array (Option Value)} {oc_zeros_of kV_zeros_of dc_zeros_of pm_zeros_of cd_zeros_of ct_zeros_of : Value}
    (a_zeros_of : PySem.W.nsIn K mainGlobals "zeros_of" = some (some (.ref x_zeros_of))) (l_zeros_of : K.lookup x_zeros_of = some ⟨oc_zeros_of, od_zeros_of, .func (PySem.W.fnOf "zeros_of" "zeros_of" (defArgs s_zeros_of) (defBody s_zeros_of) (defScope s_zeros_of) .none kV_zeros_of dc_zeros_of pm_zeros_of an_zeros_of cd_zeros_of ct_zeros_of), osl_zeros_of⟩) (c_zeros_of : PySem.W.codeIn K cd_zeros_of "zeros_of" = true) (k_zeros_of : PySem.W.keepIn K (.ref x_zeros_of) = true)
    {x_zeros : Addr} {od_zeros an_zeros : Option Addr} {osl_zeros : Array (Option Value)} {oc_zeros kV_zeros dc_zeros pm_zeros cd_zeros ct_zeros : Value}
    (a_zeros : PySem.W.nsIn K mainGlobals "zeros" = some (some (.ref x_zeros))) (l_zeros : K.lookup x_zeros = some ⟨oc_zeros, od_zeros, .func (PySem.W.fnOf "zeros" "zeros" (defArgs s_zeros) (defBody s_zeros) (defScope s_zeros) .none kV_zeros dc_zeros pm_zeros an_zeros cd_zeros ct_zeros), osl_zeros⟩) (c_zeros : PySem.W.codeIn K cd_zeros "zeros" = true) (k_zeros : PySem.W.keepIn K (.ref x_zeros) = true)
    {x_law : Addr} {od_law an_law : Option Addr} {osl_law : Array (Option Value)} {oc_law kV_law dc_law pm_law cd_law ct_law : Value}
    (a_law : PySem.W.nsIn K mainGlobals "law" = some (some (.ref x_law))) (l_law : K.lookup x_law = some ⟨oc_law, od_law, .func (PySem.W.fnOf "law" "law" (defArgs s_law) (defBody s_law) (defScope s_law) .none kV_law dc_law pm_law an_law cd_law ct_law), osl_law⟩) (c_law : PySem.W.codeIn K cd_law "law" = true) (k_law : PySem.W.keepIn K (.ref x_law) = true)
    (z_abs : PySem.W.nsIn K mainGlobals "abs" = some none)
    (z_int : PySem.W.nsIn K mainGlobals "int" = some none)
    (z_len : PySem.W.nsIn K mainGlobals "len" = some none)
    (z_min : PySem.W.nsIn K mainGlobals "min" = some none)
    (z_range : PySem.W.nsIn K mainGlobals "range" = some none)
    (z_repr : PySem.W.nsIn K mainGlobals "repr" = some none)
    {t_DIGITS : Tok} (q_DIGITS : PySem.W.nsIn K mainGlobals "DIGITS" = some (some (.str "0123456789abcdefghijklmnopqrstuvwxyz" t_DIGITS)))
    {t_LEAST_BASE : Tok} (q_LEAST_BASE : PySem.W.nsIn K mainGlobals "LEAST_BASE" = some (some (.int 2 t_LEAST_BASE)))
    {t_MOST_BASE : Tok} (q_MOST_BASE : PySem.W.nsIn K mainGlobals "MOST_BASE" = some (some (.int 36 t_MOST_BASE)))
    {t_MOST_NUMBER : Tok} (q_MOST_NUMBER : PySem.W.nsIn K mainGlobals "MOST_NUMBER" = some (some (.int 1000000 t_MOST_NUMBER)))
    {t_MOST_PRODUCT : Tok} (q_MOST_PRODUCT : PySem.W.nsIn K mainGlobals "MOST_PRODUCT" = some (some (.int 300 t_MOST_PRODUCT)))
    {t_MOST_ZEROS : Tok} (q_MOST_ZEROS : PySem.W.nsIn K mainGlobals "MOST_ZEROS" = some (some (.int 10000 t_MOST_ZEROS))) :
    ∃ T : Top K mg, T.a_law = fa ∧ (∀ (s : Shared) (u : Value), BindsTo s T.d_law ⟨[u], []⟩ [("script", u)]) := by
  have e := hfa.symm.trans (PySem.W.mg_of X G a_law)
  refine ⟨{
    a__law_draws := x__law_draws, d__law_draws := PySem.W.fnOf "_law_draws" "_law_draws" (defArgs s__law_draws) (defBody s__law_draws) (defScope s__law_draws) .none kV__law_draws dc__law_draws pm__law_draws an__law_draws cd__law_draws ct__law_draws, F__law_draws := fun_mk l__law_draws c__law_draws k__law_draws, b__law_draws := (fun_mk (st := s__law_draws) l__law_draws c__law_draws k__law_draws).binds (ps := ["script"]) fun _ _ _ _ _ _ us hl => match us, hl with | [_], _ => rfl, m__law_draws := PySem.W.mg_of X G a__law_draws,
    a__law_mix := x__law_mix, d__law_mix := PySem.W.fnOf "_law_mix" "_law_mix" (defArgs s__law_mix) (defBody s__law_mix) (defScope s__law_mix) .none kV__law_mix dc__law_mix pm__law_mix an__law_mix cd__law_mix ct__law_mix, F__law_mix := fun_mk l__law_mix c__law_mix k__law_mix, b__law_mix := (fun_mk (st := s__law_mix) l__law_mix c__law_mix k__law_mix).binds (ps := ["draws", "k", "many"]) fun _ _ _ _ _ _ us hl => match us, hl with | [_, _, _], _ => rfl, m__law_mix := PySem.W.mg_of X G a__law_mix,
    a_check_base := x_check_base, d_check_base := PySem.W.fnOf "check_base" "check_base" (defArgs s_check_base) (defBody s_check_base) (defScope s_check_base) .none kV_check_base dc_check_base pm_check_base an_check_base cd_check_base ct_check_base, F_check_base := fun_mk l_check_base c_check_base k_check_base, b_check_base := (fun_mk (st := s_check_base) l_check_base c_check_base k_check_base).binds (ps := ["base"]) fun _ _ _ _ _ _ us hl => match us, hl with | [_], _ => rfl, m_check_base := PySem.W.mg_of X G a_check_base,
    a_check_numbers := x_check_numbers, d_check_numbers := PySem.W.fnOf "check_numbers" "check_numbers" (defArgs s_check_numbers) (defBody s_check_numbers) (defScope s_check_numbers) .none kV_check_numbers dc_check_numbers pm_check_numbers an_check_numbers cd_check_numbers ct_check_numbers, F_check_numbers := fun_mk l_check_numbers c_check_numbers k_check_numbers, b_check_numbers := (fun_mk (st := s_check_numbers) l_check_numbers c_check_numbers k_check_numbers).binds (ps := ["base", "told"]) fun _ _ _ _ _ _ us hl => match us, hl with | [_, _], _ => rfl, m_check_numbers := PySem.W.mg_of X G a_check_numbers,
    a_power_in := x_power_in, d_power_in := PySem.W.fnOf "power_in" "power_in" (defArgs s_power_in) (defBody s_power_in) (defScope s_power_in) .none kV_power_in dc_power_in pm_power_in an_power_in cd_power_in ct_power_in, F_power_in := fun_mk l_power_in c_power_in k_power_in, b_power_in := (fun_mk (st := s_power_in) l_power_in c_power_in k_power_in).binds (ps := ["number", "prime"]) fun _ _ _ _ _ _ us hl => match us, hl with | [_, _], _ => rfl, m_power_in := PySem.W.mg_of X G a_power_in,
    a_primes_of := x_primes_of, d_primes_of := PySem.W.fnOf "primes_of" "primes_of" (defArgs s_primes_of) (defBody s_primes_of) (defScope s_primes_of) .none kV_primes_of dc_primes_of pm_primes_of an_primes_of cd_primes_of ct_primes_of, F_primes_of := fun_mk l_primes_of c_primes_of k_primes_of, b_primes_of := (fun_mk (st := s_primes_of) l_primes_of c_primes_of k_primes_of).binds (ps := ["base"]) fun _ _ _ _ _ _ us hl => match us, hl with | [_], _ => rfl, m_primes_of := PySem.W.mg_of X G a_primes_of,
    a_product_zeros := x_product_zeros, d_product_zeros := PySem.W.fnOf "product_zeros" "product_zeros" (defArgs s_product_zeros) (defBody s_product_zeros) (defScope s_product_zeros) .none kV_product_zeros dc_product_zeros pm_product_zeros an_product_zeros cd_product_zeros ct_product_zeros, F_product_zeros := fun_mk l_product_zeros c_product_zeros k_product_zeros, b_product_zeros := (fun_mk (st := s_product_zeros) l_product_zeros c_product_zeros k_product_zeros).binds (ps := ["number", "base"]) fun _ _ _ _ _ _ us hl => match us, hl with | [_, _], _ => rfl, m_product_zeros := PySem.W.mg_of X G a_product_zeros,
    a_least_with := x_least_with, d_least_with := PySem.W.fnOf "least_with" "least_with" (defArgs s_least_with) (defBody s_least_with) (defScope s_least_with) .none kV_least_with dc_least_with pm_least_with an_least_with cd_least_with ct_least_with, F_least_with := fun_mk l_least_with c_least_with k_least_with, b_least_with := (fun_mk (st := s_least_with) l_least_with c_least_with k_least_with).binds (ps := ["many", "base"]) fun _ _ _ _ _ _ us hl => match us, hl with | [_, _], _ => rfl, m_least_with := PySem.W.mg_of X G a_least_with,
    a_products_with := x_products_with, d_products_with := PySem.W.fnOf "products_with" "products_with" (defArgs s_products_with) (defBody s_products_with) (defScope s_products_with) .none kV_products_with dc_products_with pm_products_with an_products_with cd_products_with ct_products_with, F_products_with := fun_mk l_products_with c_products_with k_products_with, b_products_with := (fun_mk (st := s_products_with) l_products_with c_products_with k_products_with).binds (ps := ["many", "base"]) fun _ _ _ _ _ _ us hl => match us, hl with | [_, _], _ => rfl, m_products_with := PySem.W.mg_of X G a_products_with,
    a__law_signs := x__law_signs, d__law_signs := PySem.W.fnOf "_law_signs" "_law_signs" (defArgs s__law_signs) (defBody s__law_signs) (defScope s__law_signs) .none kV__law_signs dc__law_signs pm__law_signs an__law_signs cd__law_signs ct__law_signs, F__law_signs := fun_mk l__law_signs c__law_signs k__law_signs, b__law_signs := (fun_mk (st := s__law_signs) l__law_signs c__law_signs k__law_signs).binds (ps := []) fun _ _ _ _ _ _ us hl => match us, hl with | [], _ => rfl, m__law_signs := PySem.W.mg_of X G a__law_signs,
    a__law_write := x__law_write, d__law_write := PySem.W.fnOf "_law_write" "_law_write" (defArgs s__law_write) (defBody s__law_write) (defScope s__law_write) .none kV__law_write dc__law_write pm__law_write an__law_write cd__law_write ct__law_write, F__law_write := fun_mk l__law_write c__law_write k__law_write, b__law_write := (fun_mk (st := s__law_write) l__law_write c__law_write k__law_write).binds (ps := ["number", "base"]) fun _ _ _ _ _ _ us hl => match us, hl with | [_, _], _ => rfl, m__law_write := PySem.W.mg_of X G a__law_write,
    a__law_zeros := x__law_zeros, d__law_zeros := PySem.W.fnOf "_law_zeros" "_law_zeros" (defArgs s__law_zeros) (defBody s__law_zeros) (defScope s__law_zeros) .none kV__law_zeros dc__law_zeros pm__law_zeros an__law_zeros cd__law_zeros ct__law_zeros, F__law_zeros := fun_mk l__law_zeros c__law_zeros k__law_zeros, b__law_zeros := (fun_mk (st := s__law_zeros) l__law_zeros c__law_zeros k__law_zeros).binds (ps := ["number", "base"]) fun _ _ _ _ _ _ us hl => match us, hl with | [_, _], _ => rfl, m__law_zeros := PySem.W.mg_of X G a__law_zeros,
    a_zeros_of_product := x_zeros_of_product, d_zeros_of_product := PySem.W.fnOf "zeros_of_product" "zeros_of_product" (defArgs s_zeros_of_product) (defBody s_zeros_of_product) (defScope s_zeros_of_product) .none kV_zeros_of_product dc_zeros_of_product pm_zeros_of_product an_zeros_of_product cd_zeros_of_product ct_zeros_of_product, F_zeros_of_product := fun_mk l_zeros_of_product c_zeros_of_product k_zeros_of_product, b_zeros_of_product := (fun_mk (st := s_zeros_of_product) l_zeros_of_product c_zeros_of_product k_zeros_of_product).binds (ps := ["number", "base"]) fun _ _ _ _ _ _ us hl => match us, hl with | [_, _], _ => rfl, m_zeros_of_product := PySem.W.mg_of X G a_zeros_of_product,
    a_last_of_product := x_last_of_product, d_last_of_product := PySem.W.fnOf "last_of_product" "last_of_product" (defArgs s_last_of_product) (defBody s_last_of_product) (defScope s_last_of_product) .none kV_last_of_product dc_last_of_product pm_last_of_product an_last_of_product cd_last_of_product ct_last_of_product, F_last_of_product := fun_mk l_last_of_product c_last_of_product k_last_of_product, b_last_of_product := (fun_mk (st := s_last_of_product) l_last_of_product c_last_of_product k_last_of_product).binds (ps := ["number", "base"]) fun _ _ _ _ _ _ us hl => match us, hl with | [_, _], _ => rfl, m_last_of_product := PySem.W.mg_of X G a_last_of_product,
    a__law_primes := x__law_primes, d__law_primes := PySem.W.fnOf "_law_primes" "_law_primes" (defArgs s__law_primes) (defBody s__law_primes) (defScope s__law_primes) .none kV__law_primes dc__law_primes pm__law_primes an__law_primes cd__law_primes ct__law_primes, F__law_primes := fun_mk l__law_primes c__law_primes k__law_primes, b__law_primes := (fun_mk (st := s__law_primes) l__law_primes c__law_primes k__law_primes).binds (ps := ["base"]) fun _ _ _ _ _ _ us hl => match us, hl with | [_], _ => rfl, m__law_primes := PySem.W.mg_of X G a__law_primes,
    a__law_due := x__law_due, d__law_due := PySem.W.fnOf "_law_due" "_law_due" (defArgs s__law_due) (defBody s__law_due) (defScope s__law_due) .none kV__law_due dc__law_due pm__law_due an__law_due cd__law_due ct__law_due, F__law_due := fun_mk l__law_due c__law_due k__law_due, b__law_due := (fun_mk (st := s__law_due) l__law_due c__law_due k__law_due).binds (ps := ["number", "base"]) fun _ _ _ _ _ _ us hl => match us, hl with | [_, _], _ => rfl, m__law_due := PySem.W.mg_of X G a__law_due,
    a_zeros_of := x_zeros_of, d_zeros_of := PySem.W.fnOf "zeros_of" "zeros_of" (defArgs s_zeros_of) (defBody s_zeros_of) (defScope s_zeros_of) .none kV_zeros_of dc_zeros_of pm_zeros_of an_zeros_of cd_zeros_of ct_zeros_of, F_zeros_of := fun_mk l_zeros_of c_zeros_of k_zeros_of, b_zeros_of := (fun_mk (st := s_zeros_of) l_zeros_of c_zeros_of k_zeros_of).binds (ps := ["number", "base"]) fun _ _ _ _ _ _ us hl => match us, hl with | [_, _], _ => rfl, m_zeros_of := PySem.W.mg_of X G a_zeros_of,
    a_zeros := x_zeros, d_zeros := PySem.W.fnOf "zeros" "zeros" (defArgs s_zeros) (defBody s_zeros) (defScope s_zeros) .none kV_zeros dc_zeros pm_zeros an_zeros cd_zeros ct_zeros, F_zeros := fun_mk l_zeros c_zeros k_zeros, b_zeros := (fun_mk (st := s_zeros) l_zeros c_zeros k_zeros).binds (ps := ["number", "base"]) fun _ _ _ _ _ _ us hl => match us, hl with | [_, _], _ => rfl, m_zeros := PySem.W.mg_of X G a_zeros,
    a_law := x_law, d_law := PySem.W.fnOf "law" "law" (defArgs s_law) (defBody s_law) (defScope s_law) .none kV_law dc_law pm_law an_law cd_law ct_law, F_law := fun_mk l_law c_law k_law, b_law := (fun_mk (st := s_law) l_law c_law k_law).binds (ps := ["script"]) fun _ _ _ _ _ _ us hl => match us, hl with | [_], _ => rfl, m_law := PySem.W.mg_of X G a_law,
    z_abs := PySem.W.mg_none_of X G z_abs,
    z_int := PySem.W.mg_none_of X G z_int,
    z_len := PySem.W.mg_none_of X G z_len,
    z_min := PySem.W.mg_none_of X G z_min,
    z_range := PySem.W.mg_none_of X G z_range,
    z_repr := PySem.W.mg_none_of X G z_repr,
    c_DIGITS := ⟨_, PySem.W.mg_of X G q_DIGITS⟩,
    c_LEAST_BASE := ⟨_, PySem.W.mg_of X G q_LEAST_BASE⟩,
    c_MOST_BASE := ⟨_, PySem.W.mg_of X G q_MOST_BASE⟩,
    c_MOST_NUMBER := ⟨_, PySem.W.mg_of X G q_MOST_NUMBER⟩,
    c_MOST_PRODUCT := ⟨_, PySem.W.mg_of X G q_MOST_PRODUCT⟩,
    c_MOST_ZEROS := ⟨_, PySem.W.mg_of X G q_MOST_ZEROS⟩ }, ?_, fun s u => .of_eq rfl⟩
  cases e
  rfl
end LW

set_option Elab.async false
set_option linter.all false
/-! M0: plain lemmas over the mirrors' combinators. -/
namespace PL
variable {Γ Γ' Γb ρ τ α β ι : Type}
theorem seqO_nx {s : Γ} {k : Γ → Option (Out Γ' ρ)} : seqO (some (.nx s)) k = k s := of_eq_true (eq_true rfl)
theorem seqO_rt {r : ρ} {k : Γ → Option (Out Γ' ρ)} : seqO (some (.rt r)) k = some (.rt r) := of_eq_true (eq_true rfl)
theorem seqO_none {k : Γ → Option (Out Γ' ρ)} : seqO none k = none := of_eq_true (eq_true rfl)
theorem outF_rt {d : Option ρ} {r : ρ} : outF d (some (.rt r : Out Γ ρ)) = some r := of_eq_true (eq_true rfl)
theorem outF_nx {d : Option ρ} {s : Γ} : outF d (some (.nx s : Out Γ ρ)) = d := of_eq_true (eq_true rfl)
theorem bsome {a : α} {f : α → Option β} : (some a).bind f = f a := of_eq_true (eq_true rfl)
theorem whileO_zero {c : Γ → Option Bool} {b : Γ → Option (Out Γ ρ)} {g : Γ} : whileO c b 0 g = none := of_eq_true (eq_true rfl)
theorem whileO_succ {c : Γ → Option Bool} {b : Γ → Option (Out Γ ρ)} {n : Nat} {g : Γ} : whileO c b (n + 1) g = (c g).bind fun t => if t = true then seqO (b g) (whileO c b n) else some (.nx g) := of_eq_true (eq_true rfl)
theorem forO_nil {set : Γ → ι → Γb} {b : Γb → Option (Out Γ ρ)} {g : Γ} : forO set b [] g = some (.nx g) := of_eq_true (eq_true rfl)
theorem forO_cons {set : Γ → ι → Γb} {b : Γb → Option (Out Γ ρ)} {x : ι} {xs : List ι} {g : Γ} : forO set b (x :: xs) g = seqO (b (set g x)) (forO set b xs) := of_eq_true (eq_true rfl)
theorem iMod_eq {x y : Int} (h : 0 < y) : iMod x y = some (x % y) := if_pos h
theorem log2_lt64 {x : Int} {n : Nat} (h1 : -(2 ^ n) < x) (h2 : x < 2 ^ n) (hn : 0 < n) : x.natAbs.log2 < n := by
  have hp : ((2 : Int) ^ n) = ((2 ^ n : Nat) : Int) := by simp
  by_cases h : x.natAbs = 0
  · rw [h]; simp; exact hn
  · rw [Nat.log2_lt h]
    omega
theorem iDiv_eq {x y : Int} (h : 0 < y) (h2 : y < 2 ^ 64) : iDiv x y = some (x / y) := if_pos ⟨h, Nat.lt_of_lt_of_le (log2_lt64 (n := 64) (by omega) h2 (by decide)) (by decide)⟩
theorem iMul_eq {x y : Int} (h1 : -(2 ^ 64) < x ∧ x < 2 ^ 64) (h2 : -(2 ^ 64) < y ∧ y < 2 ^ 64) : iMul x y = some (x * y) := by
  have a := log2_lt64 (n := 64) h1.1 h1.2 (by decide)
  have b := log2_lt64 (n := 64) h2.1 h2.2 (by decide)
  exact if_pos (by omega)
theorem iMul_bits {x y : Int} (h : x.natAbs.log2 + y.natAbs.log2 < 1000000) : iMul x y = some (x * y) := if_pos h
theorem sizeLine_val : PySem.sizeLine = 16777216 := by decide
theorem push_eq {l : List τ} {t : τ} (h : l.length < 16777216) : push l t = some (l ++ [t]) := if_pos (by rw [sizeLine_val]; exact h)
theorem lNew_eq {l : List τ} (h : l.length ≤ 16777216) : lNew l = some l := if_pos (by rw [sizeLine_val]; exact h)
theorem lCat_eq {l r : List τ} (h : l.length + r.length ≤ 16777216) : lCat l r = some (l ++ r) := if_pos (by rw [sizeLine_val]; exact h)
theorem tCat_eq {l r : Tx} (h : l.cs.length + r.cs.length ≤ 16777216) : tCat l r = some ⟨l.cs ++ r.cs⟩ := if_pos (by rw [sizeLine_val]; exact h)
theorem rng1_eq {j : Int} (h : j < 2 ^ 62) (h0 : -(2 ^ 62) ≤ j) : rng1 j = some (rng 0 j.toNat) := if_pos ⟨h0, h⟩
theorem rng2_eq {i j : Int} (h : -(2 ^ 62) ≤ i ∧ i < 2 ^ 62) (h' : -(2 ^ 62) ≤ j ∧ j < 2 ^ 62) : rng2 i j = some (rng i (j - i).toNat) := if_pos ⟨h, h'⟩
theorem rng_mem {lo x : Int} {n : Nat} (h : x ∈ rng lo n) : lo ≤ x ∧ x < lo + n := by
  unfold rng at h
  obtain ⟨i, hi, rfl⟩ := List.mem_map.mp h
  have := List.mem_range.mp hi
  omega
theorem rng_zero {lo : Int} : rng lo 0 = [] := rfl
theorem rng_succ {lo : Int} {n : Nat} : rng lo (n + 1) = lo :: rng (lo + 1) n := by
  unfold rng
  rw [List.range_succ_eq_map, List.map_cons, List.map_map]
  congr 1
  · simp
  · exact List.map_congr_left fun i _ => by simp only [Function.comp]; omega
theorem atI_some {l : List τ} {i : Int} (h : 0 ≤ i) (h2 : i < l.length) : ∃ x, L2.atI l i = some x ∧ x ∈ l := by
  have hi : i.toNat < l.length := by omega
  refine ⟨l[i.toNat], ?_, List.getElem_mem hi⟩
  have h3 := L2.atI_nat (xs := l) (j := i.toNat) (v := l[i.toNat]) (by simp)
  rw [Int.toNat_of_nonneg h] at h3
  exact h3
/-- a for that goes through, by an invariant over the items behind -/
theorem forO_all {set : Γ → ι → Γb} {b : Γb → Option (Out Γ ρ)} (I : Nat → Γ → Prop) : ∀ (xs : List ι) (i : Nat) (g : Γ), I i g → (∀ j x g, xs[j]? = some x → I (i + j) g → ∃ g', b (set g x) = some (.nx g') ∧ I (i + j + 1) g') → ∃ g', forO set b xs g = some (.nx g') ∧ I (i + xs.length) g'
  | [], i, g, h, _ => ⟨g, rfl, h⟩
  | x :: xs, i, g, h, st => by
    obtain ⟨g1, e1, h1⟩ := st 0 x g rfl h
    obtain ⟨g2, e2, h2⟩ := forO_all I xs (i + 1) g1 h1 fun j y g hy hI => by
      have := st (j + 1) y g hy (by rw [show i + (j + 1) = i + 1 + j by omega]; exact hI)
      rw [show i + 1 + j + 1 = i + (j + 1) + 1 by omega]
      exact this
    refine ⟨g2, ?_, by rw [List.length_cons, show i + (xs.length + 1) = i + 1 + xs.length by omega]; exact h2⟩
    rw [forO_cons, e1, seqO_nx]
    exact e2
/-- a for whose state is told by the turn -/
theorem forO_eq {set : Γ → ι → Γb} {b : Γb → Option (Out Γ ρ)} (G : Nat → Γ) (xs : List ι) (st : ∀ j x, xs[j]? = some x → b (set (G j) x) = some (.nx (G (j + 1)))) : forO set b xs (G 0) = some (.nx (G xs.length)) := by
  obtain ⟨g, e, h⟩ := forO_all (fun i g => g = G i) xs 0 (G 0) rfl fun j x g hx hg => by
    have hg : g = G (0 + j) := hg
    rw [Nat.zero_add] at hg
    subst hg
    exact ⟨_, st j x hx, by rw [Nat.zero_add]⟩
  have h : g = G (0 + xs.length) := h
  rw [Nat.zero_add] at h
  rw [e, h]
theorem forO_same {set : Γ → ι → Γb} {b : Γb → Option (Out Γ ρ)} {g : Γ} {xs : List ι} (st : ∀ x ∈ xs, b (set g x) = some (.nx g)) : forO set b xs g = some (.nx g) :=
  forO_eq (fun _ => g) xs fun j x hx => st x (List.mem_of_getElem? hx)
/-- a while, by an invariant and a measure -/
theorem whileO_all {c : Γ → Option Bool} {b : Γ → Option (Out Γ ρ)} (I : Γ → Prop) (m : Γ → Nat) (st : ∀ g, I g → c g = some false ∨ (c g = some true ∧ ∃ g', b g = some (.nx g') ∧ I g' ∧ m g' < m g)) : ∀ (n : Nat) (g : Γ), I g → m g < n → ∃ g', whileO c b n g = some (.nx g') ∧ I g' ∧ c g' = some false
  | 0, g, _, h => absurd h (Nat.not_lt_zero _)
  | n + 1, g, hI, hm => by
    rw [whileO_succ]
    rcases st g hI with h | ⟨h, g', e, hI', hm'⟩
    · exact ⟨g, by rw [h]; rfl, hI, h⟩
    · obtain ⟨g2, e2, r⟩ := whileO_all I m st n g' hI' (by omega)
      exact ⟨g2, by rw [h, bsome, if_pos rfl, e, seqO_nx]; exact e2, r⟩
/-- a while whose state is told by the turn -/
theorem whileO_eq {c : Γ → Option Bool} {b : Γ → Option (Out Γ ρ)} (G : Nat → Γ) (N : Nat) (st : ∀ j, j < N → c (G j) = some true ∧ b (G j) = some (.nx (G (j + 1)))) (en : c (G N) = some false) : ∀ (n : Nat), N < n → whileO c b n (G 0) = some (.nx (G N)) := by
  have go : ∀ (k j n : Nat), j + k = N → k < n → whileO c b n (G j) = some (.nx (G N)) := by
    intro k
    induction k with
    | zero =>
      intro j n hj hn
      obtain ⟨n, rfl⟩ : ∃ m, n = m + 1 := ⟨n - 1, by omega⟩
      have : j = N := by omega
      subst this
      rw [whileO_succ, en]
      rfl
    | succ k ih =>
      intro j n hj hn
      obtain ⟨n, rfl⟩ : ∃ m, n = m + 1 := ⟨n - 1, by omega⟩
      obtain ⟨h1, h2⟩ := st j (by omega)
      rw [whileO_succ, h1, bsome, if_pos rfl, h2, seqO_nx]
      exact ih (j + 1) n (by omega) (by omega)
  exact fun n hn => go N 0 n (Nat.zero_add _) hn
end PL

set_option Elab.async false
set_option linter.all false
set_option maxRecDepth 100000
namespace PL
open PySem
theorem dNin_int (x : Int) (ys : List Int) : dNin x ys = some (!decide (x ∈ ys)) := by
  unfold dNin
  rw [if_pos]
  refine ⟨rfl, ?_⟩
  show ys.all (fun _ => true) = true
  simp
theorem at_last {l : List Int} {x : Int} : L2.atI (l ++ [x]) (-1) = some x := L2.atI_last l x
theorem compO_eq {Γb ι τ : Type} {t : Γb → Option Bool} {f : Γb → Option τ} {set : ι → Γb} {p : ι → Bool} {h : ι → τ} : ∀ {xs : List ι}, (∀ x ∈ xs, t (set x) = some (p x)) → (∀ x ∈ xs, p x = true → f (set x) = some (h x)) → compO t f set xs = some ((xs.filter p).map h)
  | [], _, _ => rfl
  | x :: xs, h1, h2 => by
    have ih := compO_eq (xs := xs) (fun y hy => h1 y (List.mem_cons_of_mem _ hy)) (fun y hy => h2 y (List.mem_cons_of_mem _ hy))
    rw [compO, h1 x List.mem_cons_self, bsome]
    by_cases hp : p x = true
    · rw [if_pos hp, h2 x List.mem_cons_self hp, bsome, ih, bsome, List.filter_cons_of_pos hp, List.map_cons]
    · rw [if_neg hp, ih, List.filter_cons_of_neg hp]
theorem cast_mod (a b : Nat) : ((a : Nat) : Int) % ((b : Nat) : Int) = ((a % b : Nat) : Int) := by push_cast; rfl
theorem cast_div (a b : Nat) : ((a : Nat) : Int) / ((b : Nat) : Int) = ((a / b : Nat) : Int) := by push_cast; rfl
theorem bret {α : Type} {x : Option α} : (x.bind fun y => some y) = x := by cases x <;> rfl
theorem jL_one : ∀ l : List Nat, jL [] (l.map fun c => [c]) = l
  | [] => rfl
  | [c] => rfl
  | c :: d :: l => by
    have h := jL_one (d :: l)
    show [c] ++ ([] ++ jL [] ((d :: l).map fun c => [c])) = _
    rw [h]
    rfl
theorem compO_all {Γb ι τ : Type} {t : Γb → Option Bool} {f : Γb → Option τ} {set : ι → Γb} {h : ι → τ} : ∀ {xs : List ι}, (∀ x ∈ xs, t (set x) = some true) → (∀ x ∈ xs, f (set x) = some (h x)) → compO t f set xs = some (xs.map h)
  | [], _, _ => rfl
  | x :: xs, h1, h2 => by
    have ih := compO_all (xs := xs) (fun y hy => h1 y (List.mem_cons_of_mem _ hy)) (fun y hy => h2 y (List.mem_cons_of_mem _ hy))
    rw [compO, h1 x List.mem_cons_self, bsome, if_pos rfl, h2 x List.mem_cons_self, bsome, ih, bsome, List.map_cons]
theorem rShow_tx {t : Tx} (h : t.cs.length ≤ 1000) (h2 : ∀ c ∈ t.cs, c < 1000) : ∃ r, rShow t = some r := by
  refine ⟨_, if_pos ⟨rfl, rfl, ?_, by show 0 ≤ 32; omega⟩⟩
  have := StrLaws.reprText_len ⟨t.cs.toArray⟩ (fun c hc => Nat.lt_trans (h2 c (by simpa using hc)) (by decide))
  have e : (⟨t.cs.toArray⟩ : Str).length = t.cs.length := by show t.cs.toArray.size = _; simp
  rw [e] at this
  show (reprText ⟨t.cs.toArray⟩).length ≤ sizeLine
  rw [sizeLine_val]
  omega
theorem rShow_int {i : Int} (h : i.natAbs.log2 < 1920) : ∃ r, rShow i = some r := by
  refine ⟨_, if_pos ⟨?_, rfl, ?_, by show 0 ≤ 32; omega⟩⟩
  · show decide (i.natAbs.log2 < 1920) = true
    exact decide_eq_true h
  · have := PyProof.Rows.int_text_len_1921 h
    show (PySem.Str.ofString (toString i)).length ≤ sizeLine
    rw [sizeLine_val]
    omega
theorem rShow_pair {i j : Int} (h : i.natAbs.log2 < 1920) (h2 : j.natAbs.log2 < 1920) : ∃ r, rShow (T2.mk i j) = some r := by
  refine ⟨_, if_pos ⟨?_, rfl, ?_, by show 1 ≤ 32; omega⟩⟩
  · show (decide (i.natAbs.log2 < 1920) && (decide (j.natAbs.log2 < 1920) && true)) = true
    rw [decide_eq_true h, decide_eq_true h2]
    rfl
  · have q1 := PyProof.Rows.int_text_len_1921 h
    have q2 := PyProof.Rows.int_text_len_1921 h2
    show (("(" : Str) ++ ((PySem.Str.ofString (toString i)) ++ ", " ++ (PySem.Str.ofString (toString j))) ++ (")" : String)).length ≤ sizeLine
    rw [strLen_append, strLen_append, strLen_append, strLen_append, sizeLine_val]
    have e1 : (("(" : String) : Str).length = 1 := rfl
    have e2 : ((", " : String) : Str).length = 2 := rfl
    have e3 : ((")" : String) : Str).length = 1 := rfl
    rw [e1, e2, e3]
    omega
theorem rShow_none : ∃ r, rShow (none : Option Int) = some r := by
  refine ⟨_, if_pos ⟨rfl, rfl, ?_, by show 0 ≤ 32; omega⟩⟩
  show (("None" : String) : Str).length ≤ sizeLine
  rw [sizeLine_val]
  decide
theorem iMul_nat {A B : Nat} (hA : A < 2 ^ 64) (hB : B < 2 ^ 64) : iMul (A : Int) (B : Int) = some ((A * B : Nat) : Int) := by
  rw [iMul_eq (by omega) (by omega)]
  push_cast
  rfl
theorem atI_head (L : List Int) : L2.atI ((L.map fun t => some (id t)) ++ [(none : Option Int)]) 0 = some L.head? := by
  cases L with
  | nil => rfl
  | cons a L => exact L2.atI_nat (j := 0) rfl
theorem rShow_opt {x : Option Int} (h : ∀ i, x = some i → i.natAbs.log2 < 1920) : ∃ r, rShow x = some r := by
  cases x with
  | none => exact rShow_none
  | some i => exact rShow_int (h i rfl)
theorem pigeon : ∀ (d : Nat) (l : List Nat), (∀ x ∈ l, x < d) → l.Nodup → l.length ≤ d
  | 0, l, h, _ => by
    cases l with
    | nil => exact Nat.le_refl 0
    | cons a l => have := h a List.mem_cons_self; omega
  | d + 1, l, h, n => by
    by_cases hm : d ∈ l
    · have n2 : (l.erase d).Nodup := n.erase d
      have q := pigeon d (l.erase d) (fun x hx => by
        have h1 := (List.Nodup.mem_erase_iff n).mp hx
        have := h x h1.2
        have := h1.1
        omega) n2
      rw [List.length_erase_of_mem hm] at q
      omega
    · have q := pigeon d l (fun x hx => by
        have := h x hx
        have : x ≠ d := fun z => hm (z ▸ hx)
        omega) n
      omega
theorem dvd_pw {n P : Nat} (h : 0 < P) : n ∣ n ^ P := by
  obtain ⟨k, rfl⟩ : ∃ k, P = k + 1 := ⟨P - 1, by omega⟩
  rw [Nat.pow_succ]
  exact Nat.dvd_mul_left n (n ^ k)
theorem cancel_le {n d x y : Nat} (hc : Nat.Coprime d n) (hxy : y ≤ x) (h : n * x % d = n * y % d) : x % d = y % d := by
  have h1 : d ∣ n * x - n * y := Nat.dvd_of_mod_eq_zero (Nat.sub_mod_eq_zero_of_mod_eq h)
  rw [← Nat.mul_sub] at h1
  have h2 : d ∣ x - y := Nat.Coprime.dvd_of_dvd_mul_left hc h1
  obtain ⟨c, e⟩ := h2
  rw [show x = y + d * c by omega, Nat.add_mul_mod_self_left]
theorem cancel {n d x y : Nat} (hc : Nat.Coprime d n) (h : n * x % d = n * y % d) : x % d = y % d := by
  rcases Nat.le_total y x with q | q
  · exact cancel_le hc q h
  · exact (cancel_le hc q h.symm).symm
theorem gcd_cast (a b : Nat) : (Nat.gcd ((a : Int)).natAbs ((b : Int)).natAbs : Nat) = Nat.gcd a b := by simp
theorem cut_to {τ : Type} {xs : List τ} {k : Nat} : cut xs none (some (k : Int)) = xs.take k := by
  unfold cut
  rw [HT.sIx_none, HT.sIx_nat, List.drop_zero, Nat.sub_zero, List.take_eq_take_iff]
  omega
theorem cut_from {τ : Type} {xs : List τ} {k : Nat} : cut xs (some (k : Int)) none = xs.drop k := by
  unfold cut
  rw [HT.sIx_none, HT.sIx_nat]
  by_cases h : k ≤ xs.length
  · rw [Nat.min_eq_left h, List.take_of_length_le (by rw [List.length_drop]; omega)]
  · rw [Nat.min_eq_right (by omega), List.drop_of_length_le (Nat.le_refl _), List.drop_of_length_le (by omega), List.take_nil]
theorem cutT_eq {t : Tx} {lo hi : Option Int} (h : t.cs.length ≤ 16777216) : cutT t lo hi = some ⟨cut t.cs lo hi⟩ := if_pos (by rw [sizeLine_val]; exact h)
theorem iMod_nat {a b : Nat} (h : 0 < b) : iMod (a : Int) (b : Int) = some ((a % b : Nat) : Int) := by rw [iMod_eq (by omega), cast_mod]
theorem iDiv_bits {x y : Int} (h : 0 < y) (h2 : y.natAbs.log2 < 9000) : iDiv x y = some (x / y) := if_pos ⟨h, h2⟩
theorem iDiv_nat {a b : Nat} (h : 0 < b) (h2 : b < 2 ^ 64) : iDiv (a : Int) (b : Int) = some ((a / b : Nat) : Int) := by rw [iDiv_eq (by omega) (by omega), cast_div]
theorem log2_lt_pow {a k : Nat} (h : a < 2 ^ k) : a.log2 < k + 1 := by
  by_cases h0 : a = 0
  · rw [h0]; simp
  · rw [Nat.log2_lt h0, Nat.pow_succ]; omega
theorem iMul_big {a b k m : Nat} (ha : a < 2 ^ k) (hb : b < 2 ^ m) (h : k + m < 999998) : iMul (a : Int) (b : Int) = some ((a * b : Nat) : Int) := by
  have h1 := log2_lt_pow ha
  have h2 := log2_lt_pow hb
  rw [iMul_bits (by simp only [Int.natAbs_natCast]; omega)]
  push_cast
  rfl
theorem iDiv_big {a b k : Nat} (h0 : 0 < b) (hb : b < 2 ^ k) (h : k < 8990) : iDiv (a : Int) (b : Int) = some ((a / b : Nat) : Int) := by
  have h1 := log2_lt_pow hb
  rw [iDiv_bits (by omega) (by simp only [Int.natAbs_natCast]; omega), cast_div]
end PL

set_option Elab.async false
set_option linter.all false
set_option maxRecDepth 100000
set_option exponentiation.threshold 10000
namespace PL
/-! digits of a number, the least place first -/
def DIG : List Nat := [48, 49, 50, 51, 52, 53, 54, 55, 56, 57, 97, 98, 99, 100, 101, 102, 103, 104, 105, 106, 107, 108, 109, 110, 111, 112, 113, 114, 115, 116, 117, 118, 119, 120, 121, 122]
def sg (k : Nat) : Nat := DIG.getD k 0
def val (b : Nat) : List Nat → Nat
  | [] => 0
  | d :: ds => d + b * val b ds
def dgF (b : Nat) : Nat → Nat → List Nat
  | 0, _ => []
  | k + 1, r => if r = 0 then [] else r % b :: dgF b k (r / b)
def dgN (b n : Nat) : List Nat := n % b :: dgF b 300 (n / b)
def tx (ds : List Nat) : Tx := ⟨ds.reverse.map sg⟩
def wrN (b n : Nat) : Tx := tx (dgN b n)
def AllLt (b : Nat) (ds : List Nat) : Prop := ∀ d ∈ ds, d < b
theorem AllLt.tail {b d : Nat} {ds : List Nat} (h : AllLt b (d :: ds)) : AllLt b ds := fun x hx => h x (List.mem_cons_of_mem _ hx)
theorem AllLt.head {b d : Nat} {ds : List Nat} (h : AllLt b (d :: ds)) : d < b := h d List.mem_cons_self
theorem AllLt.cons {b d : Nat} {ds : List Nat} (h : d < b) (h2 : AllLt b ds) : AllLt b (d :: ds) := fun x hx => by
  rcases List.mem_cons.mp hx with rfl | hx
  · exact h
  · exact h2 x hx
theorem AllLt.app {b : Nat} {ds es : List Nat} (h : AllLt b ds) (h2 : AllLt b es) : AllLt b (ds ++ es) := fun x hx => by
  rcases List.mem_append.mp hx with hx | hx
  · exact h x hx
  · exact h2 x hx
theorem allLt_nil {b : Nat} : AllLt b [] := fun x hx => absurd hx (by simp)
theorem half_lt2 {b r k : Nat} (hb : 2 ≤ b) (h : r < 2 ^ (k + 1)) : r / b < 2 ^ k := by
  rw [Nat.div_lt_iff_lt_mul (by omega)]
  rw [Nat.pow_succ] at h
  exact Nat.lt_of_lt_of_le h (Nat.mul_le_mul_left _ hb)
theorem val_app {b : Nat} : ∀ (ds es : List Nat), val b (ds ++ es) = val b ds + b ^ ds.length * val b es
  | [], es => by simp [val]
  | d :: ds, es => by
    rw [List.cons_append, val, val_app ds es, val, List.length_cons, Nat.pow_succ, Nat.mul_add]
    rw [show b * (b ^ ds.length * val b es) = b ^ ds.length * b * val b es by rw [← Nat.mul_assoc, Nat.mul_comm b]]
    omega
theorem val_lt {b : Nat} : ∀ {ds : List Nat}, AllLt b ds → val b ds < b ^ ds.length
  | [], _ => by simp [val]
  | d :: ds, h => by
    have ih := val_lt h.tail
    have hd := h.head
    rw [val, List.length_cons, Nat.pow_succ, Nat.mul_comm (b ^ ds.length)]
    have : b * (val b ds + 1) ≤ b * b ^ ds.length := Nat.mul_le_mul_left b ih
    rw [Nat.mul_add] at this
    omega
theorem dgF_lt {b : Nat} (hb : 0 < b) : ∀ (k r : Nat), AllLt b (dgF b k r)
  | 0, r => allLt_nil
  | k + 1, r => by
    unfold dgF
    split
    · exact allLt_nil
    · exact .cons (Nat.mod_lt _ hb) (dgF_lt hb k _)
theorem dgN_lt {b n : Nat} (hb : 0 < b) : AllLt b (dgN b n) := .cons (Nat.mod_lt _ hb) (dgF_lt hb _ _)
theorem val_dgF {b : Nat} (hb : 2 ≤ b) : ∀ (k r : Nat), r < 2 ^ k → val b (dgF b k r) = r
  | 0, r, h => by simp at h; subst h; rfl
  | k + 1, r, h => by
    unfold dgF
    split
    · rename_i h0; rw [h0]; rfl
    · rw [val, val_dgF hb k _ (half_lt2 hb h)]
      have := Nat.div_add_mod r b
      omega
theorem val_dgN {b n : Nat} (hb : 2 ≤ b) (h : n < 2 ^ 300) : val b (dgN b n) = n := by
  unfold dgN
  rw [val, val_dgF hb 300 _ (Nat.lt_of_le_of_lt (Nat.div_le_self _ _) h)]
  have := Nat.div_add_mod n b
  omega
/-- the top digit is not 0 -/
def Top0 (ds : List Nat) : Prop := ∀ d es, ds = es ++ [d] → d ≠ 0
theorem top_dgF {b : Nat} (hb : 2 ≤ b) : ∀ (k r : Nat), r < 2 ^ k → Top0 (dgF b k r)
  | 0, r, h => fun d es e => by
    have := congrArg List.length e
    simp [dgF] at this
  | k + 1, r, h => fun d es e => by
    unfold dgF at e
    split at e
    · have := congrArg List.length e
      simp at this
    · rename_i h0
      have ih := top_dgF hb k _ (half_lt2 hb h)
      cases es with
      | nil =>
        have e1 : r % b = d := (List.cons.inj e).1
        have e2 : dgF b k (r / b) = [] := (List.cons.inj e).2
        have h3 := val_dgF hb k _ (half_lt2 hb h)
        rw [e2] at h3
        have h4 : r / b = 0 := h3.symm
        have := Nat.div_add_mod r b
        rw [h4] at this
        intro h5
        apply h0
        rw [Nat.mul_zero] at this
        omega
      | cons x es => exact ih d es (List.cons.inj e).2
theorem top_dgN {b n : Nat} (hb : 2 ≤ b) (h : n < 2 ^ 300) : (dgN b n).length = 1 ∨ Top0 (dgN b n) := by
  have ht := top_dgF hb 300 _ (Nat.lt_of_le_of_lt (Nat.div_le_self n b) h)
  cases hz : dgF b 300 (n / b) with
  | nil => left; unfold dgN; rw [hz]; rfl
  | cons x xs =>
    right
    intro d es e
    unfold dgN at e
    cases es with
    | nil =>
      rw [hz] at e
      cases e
    | cons y es =>
      have e2 : dgF b 300 (n / b) = es ++ [d] := (List.cons.inj e).2
      exact ht d es e2
/-- a row of digits without zeros ahead is told by its number -/
theorem dgF_uniq {b : Nat} (hb : 2 ≤ b) : ∀ (ds : List Nat) (k : Nat), AllLt b ds → Top0 ds → val b ds < 2 ^ k → dgF b k (val b ds) = ds
  | [], k, h, ht, hk => by
    cases k with
    | zero => rfl
    | succ k => rfl
  | d :: ds, k, h, ht, hk => by
    have ht2 : Top0 ds := fun x es e => ht x (d :: es) (by rw [e]; rfl)
    have hv : val b (d :: ds) ≠ 0 := by
      intro hz
      rw [val] at hz
      have h1 : d = 0 := by omega
      have h2 : b * val b ds = 0 := by omega
      cases ds with
      | nil => exact ht d [] rfl h1
      | cons x xs =>
        have h3 : val b (x :: xs) = 0 := by
          rcases Nat.mul_eq_zero.mp h2 with h | h
          · omega
          · exact h
        have := dgF_uniq hb (x :: xs) 0 h.tail ht2 (by rw [h3]; decide)
        rw [h3] at this
        cases this
    cases k with
    | zero => simp at hk; exact absurd hk hv
    | succ k =>
      unfold dgF
      rw [if_neg hv]
      have e1 : val b (d :: ds) % b = d := by rw [val, Nat.add_mul_mod_self_left, Nat.mod_eq_of_lt h.head]
      have e2 : val b (d :: ds) / b = val b ds := by
        rw [val, Nat.add_mul_div_left _ _ (by omega), Nat.div_eq_of_lt h.head, Nat.zero_add]
      have h3 := half_lt2 hb hk
      rw [e2] at h3
      rw [e1, e2, dgF_uniq hb ds k h.tail ht2 h3]
theorem dgN_uniq {b : Nat} (hb : 2 ≤ b) {ds : List Nat} (h : AllLt b ds) (hne : ds ≠ []) (ht : ds.length = 1 ∨ Top0 ds) (hk : val b ds < 2 ^ 300) : dgN b (val b ds) = ds := by
  cases ds with
  | nil => exact absurd rfl hne
  | cons d ds =>
    unfold dgN
    have e1 : val b (d :: ds) % b = d := by rw [val, Nat.add_mul_mod_self_left, Nat.mod_eq_of_lt h.head]
    have e2 : val b (d :: ds) / b = val b ds := by
      rw [val, Nat.add_mul_div_left _ _ (by omega), Nat.div_eq_of_lt h.head, Nat.zero_add]
    rw [e1, e2]
    congr 1
    rcases ht with ht | ht
    · have : ds = [] := by simpa using ht
      subst this
      rfl
    · exact dgF_uniq hb ds 300 h.tail (fun x es e => ht x (d :: es) (by rw [e]; rfl)) (by
        have : val b ds ≤ val b (d :: ds) := by
          rw [val]
          have : val b ds ≤ b * val b ds := Nat.le_mul_of_pos_left _ (by omega)
          omega
        omega)
theorem dgN_ne {b n : Nat} : dgN b n ≠ [] := by unfold dgN; simp
theorem dgN_zero {b : Nat} : dgN b 0 = [0] := by unfold dgN; rw [Nat.zero_mod, Nat.zero_div]; rfl
/-- a row with its top not 0: its number is at least the power -/
theorem low_val {b : Nat} : ∀ {ds : List Nat}, Top0 ds → ds ≠ [] → b ^ (ds.length - 1) ≤ val b ds
  | [], _, h => absurd rfl h
  | [d], ht, _ => by
    have := ht d [] rfl
    show b ^ 0 ≤ d + b * 0
    rw [Nat.pow_zero]
    omega
  | d :: e :: ds, ht, _ => by
    have ih := low_val (b := b) (ds := e :: ds) (fun x es q => ht x (d :: es) (by rw [q]; rfl)) (by simp)
    rw [val]
    show b ^ (ds.length + 1) ≤ _
    have h2 : b * b ^ ds.length ≤ b * val b (e :: ds) := Nat.mul_le_mul_left b ih
    rw [Nat.pow_succ, Nat.mul_comm]
    omega
theorem top_of_low {b : Nat} (hb : 2 ≤ b) {ds : List Nat} (h : AllLt b ds) (hl : b ^ (ds.length - 1) ≤ val b ds) : Top0 ds := fun d es e hd => by
  subst e hd
  have h1 : AllLt b es := fun x hx => h x (List.mem_append_left _ hx)
  have h2 := val_lt h1
  rw [val_app] at hl
  have : val b [0] = 0 := by show 0 + b * 0 = 0; simp
  rw [this, Nat.mul_zero, Nat.add_zero, List.length_append] at hl
  have h3 : es.length + [0].length - 1 = es.length := by simp
  rw [h3] at hl
  omega
theorem dgN_low {b n : Nat} (hb : 2 ≤ b) (h : n < 2 ^ 300) (h1 : 1 < (dgN b n).length) : b ^ ((dgN b n).length - 1) ≤ n := by
  rcases top_dgN hb h with q | q
  · omega
  · have := low_val (b := b) q dgN_ne
    rw [val_dgN hb h] at this
    exact this
/-- any row of digits whose number is at least the power below its top -/
theorem dgN_of {b : Nat} (hb : 2 ≤ b) {ds : List Nat} (h : AllLt b ds) (hne : ds ≠ []) (hl : ds.length = 1 ∨ b ^ (ds.length - 1) ≤ val b ds) (hk : val b ds < 2 ^ 300) : dgN b (val b ds) = ds :=
  dgN_uniq hb h hne (hl.imp id (top_of_low hb h)) hk
theorem dgN_len_le {b n k : Nat} (hb : 2 ≤ b) (h : n < 2 ^ 300) (hn : n < b ^ k) (hk : 0 < k) : (dgN b n).length ≤ k := by
  rcases Nat.lt_or_ge 1 (dgN b n).length with c | c
  · have h1 := dgN_low hb h c
    have h2 : (dgN b n).length - 1 < k := by
      rcases Nat.lt_or_ge ((dgN b n).length - 1) k with q | q
      · exact q
      · have := Nat.pow_le_pow_right (show 0 < b by omega) q
        omega
    omega
  · omega
theorem dgN_len_bits {b n k : Nat} (hb : 2 ≤ b) (h : n < 2 ^ 300) (hn : n < 2 ^ k) (hk : 0 < k) : (dgN b n).length ≤ k :=
  dgN_len_le hb h (Nat.lt_of_lt_of_le hn (Nat.pow_le_pow_left hb k)) hk
/-! signs -/
theorem sg_ix {k : Nat} (h : k < 36) : tIndex ⟨DIG⟩ ⟨[sg k]⟩ = some (k : Int) := by
  have : ∀ n : Fin 36, tIndex ⟨DIG⟩ ⟨[sg n.val]⟩ = some ((n.val : Nat) : Int) := by decide
  exact this ⟨k, h⟩
theorem sg_six {k : Nat} (h : k < 36) : sIx ⟨DIG⟩ (k : Int) = some ⟨[sg k]⟩ := by
  have : ∀ n : Fin 36, sIx ⟨DIG⟩ ((n.val : Nat) : Int) = some ⟨[sg n.val]⟩ := by decide +kernel
  exact this ⟨k, h⟩
theorem sg_in {k b : Nat} (h : k < b) (hb : b ≤ 36) : tIn ⟨[sg k]⟩ ⟨DIG.take b⟩ = some true := by
  have : ∀ b : Fin 37, ∀ n : Fin 36, n.val < b.val → tIn ⟨[sg n.val]⟩ ⟨DIG.take b.val⟩ = some true := by decide +kernel
  exact this ⟨b, by omega⟩ ⟨k, by omega⟩ h
theorem sg_inj {k m : Nat} (h : k < 36) (h2 : m < 36) (e : sg k = sg m) : k = m := by
  have : ∀ a b : Fin 36, sg a.val = sg b.val → a.val = b.val := by decide +kernel
  exact this ⟨k, h⟩ ⟨m, h2⟩ e
theorem sg_lt {k : Nat} : sg k < 1000 := by
  unfold sg
  rw [List.getD_eq_getElem?_getD]
  cases h : DIG[k]? with
  | none => decide
  | some c =>
    have h1 : ∀ c ∈ DIG, c < 1000 := by decide
    exact h1 c (List.mem_of_getElem? h)
theorem map_sg_inj : ∀ {ds es : List Nat}, AllLt 36 ds → AllLt 36 es → ds.map sg = es.map sg → ds = es
  | [], [], _, _, _ => rfl
  | [], e :: es, _, _, h => by cases h
  | d :: ds, [], _, _, h => by cases h
  | d :: ds, e :: es, h1, h2, h => by
    rw [List.map_cons, List.map_cons] at h
    obtain ⟨q1, q2⟩ := List.cons.inj h
    rw [sg_inj h1.head h2.head q1, map_sg_inj h1.tail h2.tail q2]
theorem tx_inj {ds es : List Nat} (h1 : AllLt 36 ds) (h2 : AllLt 36 es) (h : tx ds = tx es) : ds = es := by
  have h3 : ds.reverse.map sg = es.reverse.map sg := congrArg Tx.cs h
  have h4 := map_sg_inj (fun x hx => h1 x (List.mem_reverse.mp hx)) (fun x hx => h2 x (List.mem_reverse.mp hx)) h3
  exact List.reverse_inj.mp h4
theorem AllLt.le {b c : Nat} {ds : List Nat} (h : AllLt b ds) (hb : b ≤ c) : AllLt c ds := fun x hx => Nat.lt_of_lt_of_le (h x hx) hb
theorem tx_len {ds : List Nat} : (tx ds).cs.length = ds.length := by simp [tx]
theorem wrN_inj {b n m : Nat} (hb : 2 ≤ b) (hb2 : b ≤ 36) (hn : n < 2 ^ 300) (hm : m < 2 ^ 300) (h : wrN b n = wrN b m) : n = m := by
  have := tx_inj ((dgN_lt (by omega)).le hb2) ((dgN_lt (by omega)).le hb2) h
  rw [← val_dgN hb hn, ← val_dgN hb hm, this]
/-- the value from the top -/
theorem fold_val {b : Nat} : ∀ (ds : List Nat) (f : Nat), ds.reverse.foldl (fun f d => f * b + d) f = f * b ^ ds.length + val b ds
  | [], f => by simp [val]
  | d :: ds, f => by
    rw [List.reverse_cons, List.foldl_append, fold_val ds f, val, List.length_cons, Nat.pow_succ]
    show (f * b ^ ds.length + val b ds) * b + d = _
    rw [Nat.add_mul, Nat.mul_assoc, Nat.mul_comm (val b ds)]
    omega
theorem val_rep {b : Nat} : ∀ k : Nat, val b (List.replicate k 0) = 0
  | 0 => rfl
  | k + 1 => by rw [List.replicate_succ, val, val_rep k]; simp
theorem allLt_rep {b k : Nat} (hb : 0 < b) : AllLt b (List.replicate k 0) := fun x hx => by rw [(List.mem_replicate.mp hx).2]; exact hb
end PL

set_option Elab.async false
set_option linter.all false
set_option maxRecDepth 100000
set_option exponentiation.threshold 10000
namespace LW
open PL
def BdD (l : List Int) : Prop := ∀ x ∈ l, 0 ≤ x ∧ x < 65536
theorem BdD.app {l : List Int} {x : Int} (h : BdD l) (h0 : 0 ≤ x) (h1 : x < 65536) : BdD (l ++ [x]) := fun y hy => by
  rcases List.mem_append.mp hy with hy | hy
  · exact h y hy
  · have e : y = x := by simpa using hy
    rw [e]; exact ⟨h0, h1⟩
theorem draws_lp0 {ns ds : List Int} {k r t : Int} (hl : ds.length < 4000) (hb : BdD ds) (hr : 0 ≤ r) :
    ∃ ds' r', lp__law_draws_0 ⟨ns, ds, k, r, t, 0⟩ = some (.nx ⟨ns, ds', k, r', 0, 0⟩) ∧ ds'.length ≤ ds.length + 1 ∧ BdD ds' ∧ 0 ≤ r' := by
  unfold lp__law_draws_0
  simp only [bsome]
  by_cases h : r > 0
  · rw [decide_eq_true h]
    simp only [if_pos, bsome, seqO_nx]
    rw [iMod_eq (by decide)]
    simp only [bsome]
    rw [push_eq (by omega)]
    simp only [bsome, seqO_nx]
    rw [iDiv_eq (by decide) (by decide)]
    simp only [bsome, seqO_nx]
    exact ⟨_, _, rfl, by simp, hb.app (by omega) (by omega), by omega⟩
  · rw [decide_eq_false h]
    simp only [Bool.false_eq_true, if_false, seqO_nx]
    exact ⟨_, _, rfl, by omega, hb, hr⟩
theorem draws_lp1 {ns ds : List Int} {k : Int} (hk : 0 ≤ k) (hk2 : k < ns.length) (hk3 : k < 63) (hl : ds.length ≤ 60 * k.toNat) (hb : BdD ds) :
    ∃ ds', lp__law_draws_1 ⟨ns, ds, k, 0, 0, 0⟩ = some (.nx ⟨ns, ds', 0, 0, 0, 0⟩) ∧ ds'.length ≤ 60 * (k.toNat + 1) ∧ BdD ds' := by
  unfold lp__law_draws_1
  obtain ⟨x, hx, _⟩ := atI_some hk hk2
  simp only [bsome, hx, seqO_nx]
  rw [show iPow 10 18 = some 1000000000000000000 by decide +kernel]
  simp only [bsome]
  by_cases h : (x.natAbs : Int) ≥ 1000000000000000000
  · rw [decide_eq_true h]
    simp only [if_pos, seqO_nx]
    rw [rng1_eq (by decide) (by decide)]
    simp only [bsome]
    obtain ⟨g, e, ds', r', rfl, h1, h2, h3⟩ := forO_all (set := fun (s : S__law_draws) (t : Int) => (⟨s.1, s.2, s.3, s.4, t, s.6⟩ : S__law_draws)) (b := lp__law_draws_0) (fun i g => ∃ ds' r', g = ⟨ns, ds', k, r', 0, 0⟩ ∧ ds'.length ≤ ds.length + i ∧ BdD ds' ∧ 0 ≤ r') (rng 0 (Int.toNat 60)) 0 ⟨ns, ds, k, x.natAbs, 0, 0⟩ ⟨ds, _, rfl, by omega, hb, by omega⟩ (by
      rintro j y g hj ⟨ds', r', rfl, h1, h2, h3⟩
      have hj2 := (List.getElem?_eq_some_iff.mp hj).1
      rw [rng_len] at hj2
      have hj3 : j < 60 := hj2
      obtain ⟨d2, r2, e2, h4, h5, h6⟩ := draws_lp0 (ns := ns) (ds := ds') (k := k) (r := r') (t := y) (by omega) h2 h3
      exact ⟨_, e2, d2, r2, rfl, by omega, h5, h6⟩)
    rw [e]
    simp only [seqO_nx]
    refine ⟨_, rfl, ?_, h2⟩
    rw [rng_len] at h1
    have : Int.toNat 60 = 60 := rfl
    omega
  · rw [decide_eq_false h]
    simp only [Bool.false_eq_true, if_false]
    rw [iMul_eq (by omega) (by decide), iMul_eq (by omega) (by decide)]
    simp only [bsome]
    rw [iMod_eq (by decide)]
    simp only [bsome, seqO_nx]
    rw [iMul_eq (by omega) (by decide), iMul_eq (by decide) (by omega)]
    simp only [bsome]
    rw [iMod_eq (by decide)]
    simp only [bsome, seqO_nx]
    rw [iMod_eq (by decide)]
    simp only [bsome]
    rw [push_eq (by omega)]
    simp only [bsome, seqO_nx]
    rw [iDiv_eq (by decide) (by decide)]
    simp only [bsome]
    rw [iMod_eq (by decide)]
    simp only [bsome]
    rw [push_eq (by simp; omega)]
    simp only [bsome, seqO_nx]
    exact ⟨_, rfl, by simp; omega, (hb.app (by omega) (by omega)).app (by omega) (by omega)⟩
theorem draws_ok (ns : List Int) (h : ns.length ≤ 63) : ∃ l, F__law_draws ns = some l ∧ l.length ≤ 3780 ∧ BdD l := by
  unfold F__law_draws fb__law_draws
  simp only [bsome, seqO_nx]
  rw [rng1_eq (by omega) (by omega)]
  simp only [bsome]
  obtain ⟨g, e, ds', rfl, h1, h2⟩ := forO_all (set := fun (s : S__law_draws) (t : Int) => (⟨s.1, s.2, t, s.4, s.5, s.6⟩ : S__law_draws)) (b := lp__law_draws_1) (fun i g => ∃ ds', g = ⟨ns, ds', 0, 0, 0, 0⟩ ∧ ds'.length ≤ 60 * i ∧ BdD ds') (rng 0 (min 63 (ns.length : Int)).toNat) 0 ⟨ns, [], 0, 0, 0, 0⟩ ⟨[], rfl, by simp, fun x hx => absurd hx (by simp)⟩ (by
    rintro j y g hj ⟨ds', rfl, h1, h2⟩
    obtain ⟨h3, rfl⟩ := rng_get hj
    obtain ⟨d2, e2, h4, h5⟩ := draws_lp1 (ns := ns) (ds := ds') (k := 0 + (j : Int)) (by omega) (by omega) (by omega) (by simp at h1 ⊢; omega) h2
    exact ⟨_, e2, d2, rfl, by simp at h4 ⊢; omega, h5⟩)
  rw [e]
  simp only [seqO_nx, seqO_rt, outF_rt]
  exact ⟨_, rfl, by rw [rng_len] at h1; omega, h2⟩
theorem mix_ok {l : List Int} (hb : BdD l) (hl : l.length ≤ 3780) {k m : Int} (hk : 0 ≤ k) (hk2 : k < 100000000) (hm : 0 < m) : ∃ r, F__law_mix l k m = some r ∧ 0 ≤ r ∧ r < m := by
  unfold F__law_mix fb__law_mix
  simp only [bsome, seqO_nx]
  by_cases h : (l.length : Int) > 0
  · rw [decide_eq_true h]
    simp only [if_pos]
    rw [iMod_eq h]
    simp only [bsome]
    obtain ⟨x, hx, hmem⟩ := atI_some (l := l) (i := k % l.length) (Int.emod_nonneg _ (by omega)) (Int.emod_lt_of_pos _ h)
    rw [hx]
    simp only [bsome, seqO_nx]
    have hx1 := (hb x hmem).1
    have hx2 := (hb x hmem).2
    by_cases h2 : k < (l.length : Int)
    · rw [decide_eq_true h2]
      simp only [if_pos]
      rw [iMod_eq hm]
      simp only [bsome, seqO_rt, outF_rt]
      exact ⟨_, rfl, Int.emod_nonneg _ (by omega), Int.emod_lt_of_pos _ hm⟩
    · rw [decide_eq_false h2]
      simp only [Bool.false_eq_true, if_false, seqO_nx]
      rw [iMul_eq (by omega) (by decide), iMul_eq (by omega) (by decide)]
      simp only [bsome]
      rw [iDiv_eq (by decide) (by decide)]
      simp only [bsome]
      rw [iMod_eq hm]
      simp only [bsome, seqO_rt, outF_rt]
      exact ⟨_, rfl, Int.emod_nonneg _ (by omega), Int.emod_lt_of_pos _ hm⟩
  · rw [decide_eq_false h]
    simp only [Bool.false_eq_true, if_false, seqO_nx, bsome]
    by_cases h2 : k < (l.length : Int)
    · rw [decide_eq_true h2]
      simp only [if_pos]
      rw [iMod_eq hm]
      simp only [bsome, seqO_rt, outF_rt]
      exact ⟨_, rfl, Int.emod_nonneg _ (by omega), Int.emod_lt_of_pos _ hm⟩
    · rw [decide_eq_false h2]
      simp only [Bool.false_eq_true, if_false, seqO_nx]
      rw [iMul_eq (by omega) (by decide), iMul_eq (by omega) (by decide)]
      simp only [bsome]
      rw [iDiv_eq (by decide) (by decide)]
      simp only [bsome]
      rw [iMod_eq hm]
      simp only [bsome, seqO_rt, outF_rt]
      exact ⟨_, rfl, Int.emod_nonneg _ (by omega), Int.emod_lt_of_pos _ hm⟩
end LW

set_option Elab.async false
set_option linter.all false
set_option maxRecDepth 100000
set_option exponentiation.threshold 10000
namespace LW
open PL
theorem dig_eq : c_DIGITS_l = DIG := rfl
theorem bassoc {α β γ : Type} {x : Option α} {f : α → Option β} {g : β → Option γ} : (x.bind f).bind g = x.bind fun a => (f a).bind g := by cases x <;> rfl
theorem check_base_ok {b : Int} (h : 2 ≤ b) (h2 : b ≤ 36) : F_check_base b = some () := by
  unfold F_check_base fb_check_base
  simp [bsome, seqO_nx, outF_nx, h, h2]
theorem check_numbers_ok {b : Int} (h : 2 ≤ b) (h2 : b ≤ 36) {told : List (T3 Int Int Int)} (ht : ∀ t ∈ told, t.b ≤ t.a ∧ t.a ≤ t.c) : F_check_numbers b told = some () := by
  unfold F_check_numbers fb_check_numbers
  simp only [bsome]
  rw [check_base_ok h h2]
  simp only [bsome, seqO_nx]
  rw [forO_same (g := (⟨b, told, 0, 0, 0⟩ : S_check_numbers)) fun t hx => by
    obtain ⟨h3, h4⟩ := ht t hx
    unfold lp_check_numbers_0
    simp only [bsome, decide_eq_true h3, decide_eq_true h4, if_true, Bool.not_true, Bool.false_eq_true, if_false, seqO_nx]]
  simp only [seqO_nx, outF_nx]
theorem check1_ok {b : Nat} (h : 2 ≤ b) (h2 : b ≤ 36) {x l m : Int} (h3 : l ≤ x) (h4 : x ≤ m) : F_check_numbers (b : Int) [⟨x, l, m⟩] = some () :=
  check_numbers_ok (by omega) (by omega) fun t ht => by
    have e : t = ⟨x, l, m⟩ := by simpa using ht
    rw [e]
    exact ⟨h3, h4⟩
/-! ### the primes of a base -/
def fcs : Nat → Nat → Nat → List (Nat × Nat)
  | 0, _, _ => []
  | f + 1, p, n => if n ≤ 1 then [] else
    let m := mul f p n
    if m = 0 then fcs f (p + 1) n else (p, m) :: fcs f (p + 1) (n / p ^ m)
where mul : Nat → Nat → Nat → Nat
  | 0, _, _ => 0
  | f + 1, p, n => if n % p = 0 then mul f p (n / p) + 1 else 0
def pfs (b : Nat) : List (Nat × Nat) := fcs 40 2 b
def tw (q : Nat × Nat) : T2 Int Int := ⟨(q.1 : Int), (q.2 : Int)⟩
theorem primes_tab : ∀ b : Fin 37, 2 ≤ b.val → F_primes_of ((b.val : Nat) : Int) = some ((pfs b.val).map tw) ∧ F__law_primes ((b.val : Nat) : Int) = some ((pfs b.val).map tw) := by decide +kernel
theorem primes_ok {b : Nat} (h : 2 ≤ b) (h2 : b ≤ 36) : F_primes_of (b : Int) = some ((pfs b).map tw) := (primes_tab ⟨b, by omega⟩ h).1
theorem law_primes_ok {b : Nat} (h : 2 ≤ b) (h2 : b ≤ 36) : F__law_primes (b : Int) = some ((pfs b).map tw) := (primes_tab ⟨b, by omega⟩ h).2
theorem pfs_tab : ∀ b : Fin 37, 2 ≤ b.val → pfs b.val ≠ [] ∧ ∀ q ∈ pfs b.val, 2 ≤ q.1 ∧ q.1 ≤ 36 ∧ 1 ≤ q.2 ∧ q.2 ≤ 5 ∧ q.1 ∣ b.val ∧ q.2 ≤ b.val / q.1 := by decide +kernel
theorem pfs_ok {b : Nat} (h : 2 ≤ b) (h2 : b ≤ 36) : pfs b ≠ [] ∧ ∀ q ∈ pfs b, 2 ≤ q.1 ∧ q.1 ≤ 36 ∧ 1 ≤ q.2 ∧ q.2 ≤ 5 ∧ q.1 ∣ b ∧ q.2 ≤ b / q.1 := pfs_tab ⟨b, by omega⟩ h
/-! ### Legendre -/
def leg (p : Nat) : Nat → Nat → Nat
  | 0, _ => 0
  | f + 1, n => if n = 0 then 0 else n / p + leg p f (n / p)
def lg (p n : Nat) : Nat := leg p 40 n
theorem leg_mono {p : Nat} : ∀ (f n m : Nat), n ≤ m → leg p f n ≤ leg p f m
  | 0, _, _, _ => Nat.le_refl _
  | f + 1, n, m, h => by
    unfold leg
    by_cases c : n = 0
    · rw [if_pos c]; exact Nat.zero_le _
    · rw [if_neg c, if_neg (by omega)]
      have h1 : n / p ≤ m / p := Nat.div_le_div_right h
      have := leg_mono (p := p) f _ _ h1
      omega
theorem leg_le {p : Nat} (hp : 2 ≤ p) : ∀ (f n : Nat), leg p f n ≤ n
  | 0, n => Nat.zero_le _
  | f + 1, n => by
    unfold leg
    by_cases c : n = 0
    · rw [if_pos c]; exact Nat.zero_le _
    · rw [if_neg c]
      have := leg_le hp f (n / p)
      have h2 : n / p ≤ n / 2 := Nat.div_le_div_left hp (by decide)
      omega
theorem half3 {p n f : Nat} (hp : 2 ≤ p) (h : n < 2 ^ (f + 1)) : n / p < 2 ^ f := by
  rw [Nat.div_lt_iff_lt_mul (by omega)]
  rw [Nat.pow_succ] at h
  exact Nat.lt_of_lt_of_le h (Nat.mul_le_mul_left _ hp)
theorem power_in_loop {p : Nat} (hp : 2 ≤ p) (hp2 : p ≤ 36) : ∀ (f m n fo : Nat), n < 2 ^ f → f < m → whileO lc_power_in_1 lp_power_in_0 m ⟨(n : Int), (p : Int), (fo : Int)⟩ = some (.nx ⟨0, (p : Int), ((fo + leg p f n : Nat) : Int)⟩)
  | 0, m, n, fo, h, hm => by
    obtain ⟨m, rfl⟩ : ∃ k, m = k + 1 := ⟨m - 1, by omega⟩
    have h0 : n = 0 := by simpa using h
    subst h0
    rw [whileO_succ]
    rfl
  | f + 1, m, n, fo, h, hm => by
    obtain ⟨m, rfl⟩ : ∃ k, m = k + 1 := ⟨m - 1, by omega⟩
    rw [whileO_succ, leg]
    by_cases c : n = 0
    · subst c
      rfl
    · have c1 : lc_power_in_1 ⟨(n : Int), (p : Int), (fo : Int)⟩ = some true := by
        unfold lc_power_in_1
        simp only [bsome]
        rw [decide_eq_true (by omega)]
      have c2 : lp_power_in_0 ⟨(n : Int), (p : Int), (fo : Int)⟩ = some (.nx ⟨((n / p : Nat) : Int), (p : Int), ((fo + n / p : Nat) : Int)⟩) := by
        unfold lp_power_in_0
        simp only [bsome]
        rw [iDiv_nat (by omega) (by omega)]
        simp only [bsome, seqO_nx]
        push_cast
        rfl
      rw [c1, bsome, if_pos rfl, c2, seqO_nx, power_in_loop hp hp2 f m (n / p) _ (half3 hp h) (by omega), if_neg c, Nat.add_assoc]
theorem power_in_ok {p n : Nat} (hp : 2 ≤ p) (hp2 : p ≤ 36) (hn : n < 2 ^ 40) : F_power_in (n : Int) (p : Int) = some ((lg p n : Nat) : Int) := by
  unfold F_power_in fb_power_in
  simp only [bsome, seqO_nx]
  have := power_in_loop hp hp2 40 FUEL n 0 hn (by decide)
  rw [show (((0 : Nat)) : Int) = 0 from rfl, Nat.zero_add] at this
  rw [this]
  simp only [seqO_nx, seqO_rt, outF_rt]
  rfl
/-- by powers: the same -/
theorem due_loop {b p e : Nat} {rows : List Int} {N : Nat} (hp : 2 ≤ p) (hp2 : p ≤ 36) (hN : N < 2 ^ 40) : ∀ (f m k w : Nat), N / p ^ k < 2 ^ f → f < m → k + f ≤ 80 →
    ∃ P : Int, whileO lc__law_due_1 lp__law_due_0 m ⟨(N : Int), (b : Int), rows, (p : Int), (e : Int), (w : Int), ((p ^ (k + 1) : Nat) : Int)⟩ = some (.nx ⟨(N : Int), (b : Int), rows, (p : Int), (e : Int), ((w + leg p f (N / p ^ k) : Nat) : Int), P⟩) := by
  intro f
  induction f with
  | zero =>
    intro m k w h hm hk
    obtain ⟨m, rfl⟩ : ∃ k, m = k + 1 := ⟨m - 1, by omega⟩
    have hpk : 0 < p ^ k := Nat.pow_pos (by omega)
    have h0 : N / p ^ k = 0 := by simpa using h
    have h1 : N < p ^ k := by
      rcases Nat.div_eq_zero_iff.mp h0 with q | q
      · omega
      · exact q
    have h2 : p ^ k ≤ p ^ (k + 1) := Nat.pow_le_pow_right (by omega) (by omega)
    refine ⟨((p ^ (k + 1) : Nat) : Int), ?_⟩
    rw [whileO_succ, show lc__law_due_1 ⟨(N : Int), (b : Int), rows, (p : Int), (e : Int), (w : Int), ((p ^ (k + 1) : Nat) : Int)⟩ = some false by
      unfold lc__law_due_1
      simp only [bsome]
      rw [decide_eq_false (by omega)], bsome, if_neg (by decide)]
    rfl
  | succ f ih =>
    intro m k w h hm hk
    obtain ⟨m, rfl⟩ : ∃ k, m = k + 1 := ⟨m - 1, by omega⟩
    have hpk : 0 < p ^ k := Nat.pow_pos (by omega)
    have hpk1 : 0 < p ^ (k + 1) := Nat.pow_pos (by omega)
    have hdd : N / p ^ k / p = N / p ^ (k + 1) := by rw [Nat.div_div_eq_div_mul, ← Nat.pow_succ]
    by_cases c : p ^ (k + 1) ≤ N
    · have c1 : lc__law_due_1 ⟨(N : Int), (b : Int), rows, (p : Int), (e : Int), (w : Int), ((p ^ (k + 1) : Nat) : Int)⟩ = some true := by
        unfold lc__law_due_1
        simp only [bsome]
        rw [decide_eq_true (by omega)]
      have c2 : lp__law_due_0 ⟨(N : Int), (b : Int), rows, (p : Int), (e : Int), (w : Int), ((p ^ (k + 1) : Nat) : Int)⟩ = some (.nx ⟨(N : Int), (b : Int), rows, (p : Int), (e : Int), ((w + N / p ^ (k + 1) : Nat) : Int), ((p ^ (k + 1 + 1) : Nat) : Int)⟩) := by
        unfold lp__law_due_0
        simp only [bsome]
        rw [iDiv_nat hpk1 (by omega), iMul_nat (by omega) (by omega), ← Nat.pow_succ]
        simp only [bsome, seqO_nx]
        push_cast
        rfl
      have h3 := half3 hp h
      rw [hdd] at h3
      obtain ⟨P, e1⟩ := ih m (k + 1) (w + N / p ^ (k + 1)) h3 (by omega) (by omega)
      refine ⟨P, ?_⟩
      rw [whileO_succ, c1, bsome, if_pos rfl, c2, seqO_nx, e1, leg, if_neg (by
        intro z
        rw [← hdd, z] at h3
        have : 1 ≤ N / p ^ (k + 1) := by rw [Nat.le_div_iff_mul_le hpk1]; omega
        rw [← hdd, z, Nat.zero_div] at this
        omega), hdd, Nat.add_assoc]
    · have hz : N / p ^ (k + 1) = 0 := Nat.div_eq_of_lt (by omega)
      refine ⟨((p ^ (k + 1) : Nat) : Int), ?_⟩
      rw [whileO_succ, show lc__law_due_1 ⟨(N : Int), (b : Int), rows, (p : Int), (e : Int), (w : Int), ((p ^ (k + 1) : Nat) : Int)⟩ = some false by
        unfold lc__law_due_1
        simp only [bsome]
        rw [decide_eq_false (by omega)], bsome, if_neg (by decide)]
      have hl : leg p (f + 1) (N / p ^ k) = 0 := by
        rw [leg]
        by_cases q : N / p ^ k = 0
        · rw [if_pos q]
        · rw [if_neg q, hdd, hz]
          cases f with
          | zero => rfl
          | succ f => rfl
      rw [hl]
      rfl
/-! ### the zeros of a product -/
def zL (b n : Nat) : List Nat := (pfs b).map fun q => lg q.1 n / q.2
def mnL : List Nat → Nat
  | [] => 0
  | x :: xs => xs.foldl min x
def zz (b n : Nat) : Nat := mnL (zL b n)
theorem fold_cast : ∀ (xs : List Nat) (x : Nat), (xs.map fun y => ((y : Nat) : Int)).foldl min (x : Int) = ((xs.foldl min x : Nat) : Int)
  | [], x => rfl
  | y :: xs, x => by
    rw [List.map_cons, List.foldl_cons, List.foldl_cons, ← fold_cast xs (min x y)]
    congr 1
    omega
theorem least_cast {xs : List Nat} (h : xs ≠ []) : least (xs.map fun y => ((y : Nat) : Int)) = some ((mnL xs : Nat) : Int) := by
  cases xs with
  | nil => exact absurd rfl h
  | cons x xs =>
    show some (List.foldl min (x : Int) _) = _
    rw [fold_cast]
    rfl
theorem le_fold : ∀ (xs : List Nat) (x k : Nat), k ≤ xs.foldl min x ↔ k ≤ x ∧ ∀ y ∈ xs, k ≤ y
  | [], x, k => by simp
  | y :: xs, x, k => by
    rw [List.foldl_cons, le_fold xs (min x y) k]
    simp only [List.mem_cons, forall_eq_or_imp]
    constructor
    · rintro ⟨h1, h2⟩; exact ⟨by omega, by omega, h2⟩
    · rintro ⟨h1, h2, h3⟩; exact ⟨by omega, h3⟩
theorem le_mnL {xs : List Nat} (h : xs ≠ []) {k : Nat} : k ≤ mnL xs ↔ ∀ y ∈ xs, k ≤ y := by
  cases xs with
  | nil => exact absurd rfl h
  | cons x xs =>
    show k ≤ xs.foldl min x ↔ _
    rw [le_fold]
    simp
theorem le_zz {b n k : Nat} (h : 2 ≤ b) (h2 : b ≤ 36) : k ≤ zz b n ↔ ∀ q ∈ pfs b, k ≤ lg q.1 n / q.2 := by
  have hne := (pfs_ok h h2).1
  unfold zz zL
  rw [le_mnL (by simpa using hne)]
  simp only [List.mem_map]
  exact ⟨fun h q hq => h _ ⟨q, hq, rfl⟩, fun h y ⟨q, hq, e⟩ => e ▸ h q hq⟩
theorem zz_mono {b n m : Nat} (h : 2 ≤ b) (h2 : b ≤ 36) (hnm : n ≤ m) : zz b n ≤ zz b m := by
  rw [le_zz h h2]
  intro q hq
  have h3 := (le_zz (b := b) (n := n) (k := zz b n) h h2).mp (Nat.le_refl _) q hq
  exact Nat.le_trans h3 (Nat.div_le_div_right (leg_mono 40 n m hnm))
theorem zz_le {b n : Nat} (h : 2 ≤ b) (h2 : b ≤ 36) : zz b n ≤ n := by
  obtain ⟨hne, hq⟩ := pfs_ok h h2
  obtain ⟨q, hm⟩ := List.exists_mem_of_ne_nil _ hne
  have h3 := (le_zz (b := b) (n := n) (k := zz b n) h h2).mp (Nat.le_refl _) q hm
  have h4 : lg q.1 n ≤ n := leg_le (hq q hm).1 40 n
  exact Nat.le_trans h3 (Nat.le_trans (Nat.div_le_self _ _) h4)
theorem zz_high {b m : Nat} (h : 2 ≤ b) (h2 : b ≤ 36) : m ≤ zz b (b * (m + 1)) := by
  rw [le_zz h h2]
  intro q hq
  obtain ⟨h3, h4, h5, h6, ⟨c, hc⟩, h8⟩ := (pfs_ok h h2).2 q hq
  have hp : 0 < q.1 := by omega
  have e1 : b / q.1 = c := by rw [hc, Nat.mul_div_cancel_left _ hp]
  rw [e1] at h8
  have e2 : b * (m + 1) / q.1 = c * (m + 1) := by rw [hc, Nat.mul_assoc, Nat.mul_div_cancel_left _ hp]
  have h9 : c * (m + 1) ≤ lg q.1 (b * (m + 1)) := by
    unfold lg leg
    rw [if_neg (by
      intro z
      rcases Nat.mul_eq_zero.mp z with w | w
      · omega
      · omega), e2]
    omega
  rw [Nat.le_div_iff_mul_le (by omega)]
  have h10 : m * q.2 ≤ (m + 1) * c := Nat.mul_le_mul (by omega) h8
  rw [Nat.mul_comm (m + 1) c] at h10
  omega
theorem product_zeros_ok {b n : Nat} (h : 2 ≤ b) (h2 : b ≤ 36) (hn : n < 2 ^ 40) : F_product_zeros (n : Int) (b : Int) = some ((zz b n : Nat) : Int) := by
  obtain ⟨hne, hq⟩ := pfs_ok h h2
  have hlen : (pfs b).length ≤ 100 := by
    have : ∀ b : Fin 37, (pfs b.val).length ≤ 100 := by decide +kernel
    exact this ⟨b, by omega⟩
  unfold F_product_zeros fb_product_zeros
  simp only [bsome]
  rw [primes_ok h h2]
  simp only [bsome]
  rw [lNew_eq (by rw [List.length_map]; omega)]
  simp only [bsome]
  have hc := compO_all (t := fun s : (S_product_zeros × Int) × Int => some true) (f := fun s : (S_product_zeros × Int) × Int => (F_power_in s.1.1.v_number s.1.2).bind fun x51 => iDiv x51 s.2) (set := fun t : T2 Int Int => (((⟨(n : Int), (b : Int)⟩ : S_product_zeros), t.a), t.b)) (h := fun t : T2 Int Int => ((lg t.a.toNat n / t.b.toNat : Nat) : Int)) (xs := (pfs b).map tw) (fun x _ => rfl) (fun x hx => by
    obtain ⟨q, hq2, rfl⟩ := List.mem_map.mp hx
    obtain ⟨h3, h4, h5, h6, _⟩ := hq q hq2
    show ((F_power_in (n : Int) ((q.1 : Nat) : Int)).bind fun x51 => iDiv x51 ((q.2 : Nat) : Int)) = _
    rw [power_in_ok h3 h4 hn, bsome, iDiv_nat (by omega) (by omega)]
    rfl)
  rw [hc]
  simp only [bsome]
  have e : ((pfs b).map tw).map (fun t : T2 Int Int => ((lg t.a.toNat n / t.b.toNat : Nat) : Int)) = (zL b n).map fun y => ((y : Nat) : Int) := by
    unfold zL
    rw [List.map_map, List.map_map]
    rfl
  rw [e, least_cast (by unfold zL; simpa using hne)]
  simp only [bsome, seqO_rt, outF_rt]
  rfl
theorem law_due_ok {b n : Nat} (h : 2 ≤ b) (h2 : b ≤ 36) (hn : n < 2 ^ 40) : F__law_due (n : Int) (b : Int) = some ((zz b n : Nat) : Int) := by
  obtain ⟨hne, hq⟩ := pfs_ok h h2
  have hlen : (pfs b).length ≤ 100 := by
    have : ∀ b : Fin 37, (pfs b.val).length ≤ 100 := by decide +kernel
    exact this ⟨b, by omega⟩
  unfold F__law_due fb__law_due
  simp only [bsome, seqO_nx]
  rw [law_primes_ok h h2]
  simp only [bsome]
  have hl := forO_eq (set := fun (s : S__law_due) (t : T2 Int Int) => { ({ s with v_prime := t.a }) with v_many := t.b }) (b := lp__law_due_2) (fun j => (⟨(n : Int), (b : Int), ((zL b n).take j).map (fun y => ((y : Nat) : Int)), 0, 0, 0, 0⟩ : S__law_due)) ((pfs b).map tw) (fun j x hx => by
    rw [List.getElem?_map] at hx
    cases hqj : (pfs b)[j]? with
    | none => rw [hqj] at hx; cases hx
    | some q =>
      rw [hqj] at hx
      cases hx
      obtain ⟨h3, h4, h5, h6, _⟩ := hq q (List.mem_of_getElem? hqj)
      obtain ⟨P, e1⟩ := due_loop (b := b) (e := q.2) (rows := ((zL b n).take j).map fun y => ((y : Nat) : Int)) (N := n) h3 h4 hn 40 FUEL 0 0 (by rw [Nat.pow_zero, Nat.div_one]; exact hn) (by decide) (by decide)
      rw [Nat.zero_add, Nat.pow_one, Nat.pow_zero, Nat.div_one, Nat.zero_add, show (((0 : Nat)) : Int) = 0 from rfl] at e1
      unfold lp__law_due_2
      simp only [bsome, seqO_nx]
      show seqO (whileO lc__law_due_1 lp__law_due_0 FUEL ⟨(n : Int), (b : Int), ((zL b n).take j).map (fun y => ((y : Nat) : Int)), ((q.1 : Nat) : Int), ((q.2 : Nat) : Int), 0, ((q.1 : Nat) : Int)⟩) _ = _
      rw [e1]
      simp only [seqO_nx]
      rw [iDiv_nat (by omega) (by omega)]
      simp only [bsome]
      rw [push_eq (by rw [List.length_map, List.length_take]; unfold zL; rw [List.length_map]; omega)]
      simp only [bsome, seqO_nx]
      have hj : j < (pfs b).length := (List.getElem?_eq_some_iff.mp hqj).1
      have hzj : (zL b n).take (j + 1) = (zL b n).take j ++ [lg q.1 n / q.2] := by
        rw [List.take_succ]
        congr 1
        unfold zL
        rw [List.getElem?_map, hqj]
        rfl
      rw [hzj, List.map_append]
      rfl)
  rw [List.take_zero, List.map_nil, List.length_map] at hl
  rw [hl]
  simp only [seqO_nx]
  have hzl : (zL b n).length = (pfs b).length := by unfold zL; rw [List.length_map]
  rw [← hzl, List.take_length, least_cast (by unfold zL; simpa using hne)]
  simp only [bsome, seqO_rt, outF_rt]
  rfl
theorem zeros_of_product_ok {b n : Nat} (h : 2 ≤ b) (h2 : b ≤ 36) (hn : n ≤ 1000000) : F_zeros_of_product (n : Int) (b : Int) = some ((zz b n : Nat) : Int) := by
  unfold F_zeros_of_product fb_zeros_of_product
  simp only [bsome]
  rw [check1_ok h h2 (by omega) (by omega)]
  simp only [bsome, seqO_nx]
  rw [product_zeros_ok h h2 (by omega)]
  simp only [bsome, seqO_rt, outF_rt]
end LW

set_option Elab.async false
set_option linter.all false
set_option maxRecDepth 100000
set_option exponentiation.threshold 10000
namespace LW
open PL
/-! numerals up to 2^400 -/
def ds4 (b n : Nat) : List Nat := n % b :: dgF b 400 (n / b)
theorem atI_nat {τ : Type} {l : List τ} {i : Nat} (h : i < l.length) : L2.atI l (i : Int) = l[i]? := by
  unfold L2.atI L2.ixN
  simp [h]
theorem dgF_get {b : Nat} (hb : 2 ≤ b) : ∀ (k r i : Nat), r < 2 ^ k → r / b ^ i ≠ 0 → (dgF b k r)[i]? = some (r / b ^ i % b)
  | 0, r, i, h, h2 => by
    have : r = 0 := by simpa using h
    subst this
    rw [Nat.zero_div] at h2
    exact absurd rfl h2
  | k + 1, r, i, h, h2 => by
    unfold dgF
    have h0 : r ≠ 0 := by
      rintro rfl
      rw [Nat.zero_div] at h2
      exact h2 rfl
    rw [if_neg h0]
    cases i with
    | zero => rw [Nat.pow_zero, Nat.div_one]; rfl
    | succ i =>
      have e : r / b ^ (i + 1) = r / b / b ^ i := by rw [Nat.div_div_eq_div_mul, Nat.pow_succ, Nat.mul_comm b]
      rw [List.getElem?_cons_succ, e]
      rw [e] at h2
      exact dgF_get hb k (r / b) i (half_lt2 hb h) h2
theorem ds4_get {b n i : Nat} (hb : 2 ≤ b) (hn : n < 2 ^ 400) (h : i = 0 ∨ n / b ^ i ≠ 0) : (ds4 b n)[i]? = some (n / b ^ i % b) := by
  unfold ds4
  cases i with
  | zero => rw [Nat.pow_zero, Nat.div_one]; rfl
  | succ i =>
    have e : n / b ^ (i + 1) = n / b / b ^ i := by rw [Nat.div_div_eq_div_mul, Nat.pow_succ, Nat.mul_comm b]
    rw [List.getElem?_cons_succ, e]
    rcases h with h | h
    · cases h
    · rw [e] at h
      exact dgF_get hb 400 (n / b) i (Nat.lt_of_le_of_lt (Nat.div_le_self _ _) hn) h
theorem dgF_len {b : Nat} : ∀ (k r : Nat), (dgF b k r).length ≤ k
  | 0, r => Nat.le_refl _
  | k + 1, r => by
    unfold dgF
    split
    · exact Nat.zero_le _
    · rw [List.length_cons]
      exact Nat.succ_le_succ (dgF_len k _)
theorem ds4_len {b n : Nat} : (ds4 b n).length ≤ 401 := Nat.succ_le_succ (dgF_len 400 _)
theorem sIx_tx {ds : List Nat} {i d : Nat} (hl : ds.length ≤ 1000) (h : ds[i]? = some d) : sIx (tx ds) (((tx ds).cs.length : Int) - 1 - (i : Int)) = some ⟨[sg d]⟩ := by
  have hi : i < ds.length := (List.getElem?_eq_some_iff.mp h).1
  have e : (ds.reverse.map sg)[ds.length - 1 - i]? = some (sg d) := by
    rw [List.getElem?_map, List.getElem?_reverse (by omega), show ds.length - 1 - (ds.length - 1 - i) = i by omega, h]
    rfl
  unfold sIx
  rw [if_pos (by rw [sizeLine_val, tx_len]; omega)]
  have : L2.atI (tx ds).cs (((tx ds).cs.length : Int) - 1 - (i : Int)) = some (sg d) := by
    rw [tx_len, show (ds.length : Int) - 1 - (i : Int) = ((ds.length - 1 - i : Nat) : Int) by omega]
    show L2.atI (ds.reverse.map sg) _ = _
    rw [atI_nat (by rw [List.length_map, List.length_reverse]; omega), e]
  show (L2.atI (tx ds).cs _).map _ = _
  rw [this]
  rfl
theorem lw_loop {b : Nat} (hb : 2 ≤ b) (hb2 : b ≤ 36) : ∀ (k n r : Nat) (acc : List Nat), r < 2 ^ k → k < n → acc.length + k < 1000 → acc ≠ [] →
    whileO lc__law_write_1 lp__law_write_0 n ⟨(r : Int), b, ⟨acc⟩⟩ = some (.nx ⟨0, b, ⟨((dgF b k r).reverse).map sg ++ acc⟩⟩) := by
  intro k
  induction k with
  | zero =>
    intro n r acc hr hk ha hne
    have h0 : r = 0 := by simpa using hr
    subst h0
    obtain ⟨n, rfl⟩ : ∃ m, n = m + 1 := ⟨n - 1, by omega⟩
    have c1 : lc__law_write_1 ⟨((0 : Nat) : Int), b, ⟨acc⟩⟩ = some false := by
      unfold lc__law_write_1
      simp only [bsome, show decide ((((0 : Nat)) : Int) > 0) = false by decide, Bool.false_eq_true, if_false]
      rw [decide_eq_false (fun z => hne (congrArg Tx.cs z))]
    rw [whileO_succ, c1, bsome, if_neg (by decide)]
    rfl
  | succ k ih =>
    intro n r acc hr hk ha hne
    obtain ⟨n, rfl⟩ : ∃ m, n = m + 1 := ⟨n - 1, by omega⟩
    by_cases h0 : r = 0
    · subst h0
      have c1 : lc__law_write_1 ⟨((0 : Nat) : Int), b, ⟨acc⟩⟩ = some false := by
        unfold lc__law_write_1
        simp only [bsome, show decide ((((0 : Nat)) : Int) > 0) = false by decide, Bool.false_eq_true, if_false]
        rw [decide_eq_false (fun z => hne (congrArg Tx.cs z))]
      rw [whileO_succ, c1, bsome, if_neg (by decide)]
      unfold dgF
      rw [if_pos rfl]
      rfl
    · have c1 : lc__law_write_1 ⟨(r : Int), b, ⟨acc⟩⟩ = some true := by
        unfold lc__law_write_1
        simp only [bsome, decide_eq_true (show ((r : Nat) : Int) > 0 by omega), if_true]
      have c2 : lp__law_write_0 ⟨(r : Int), b, ⟨acc⟩⟩ = some (.nx ⟨((r / b : Nat) : Int), b, ⟨sg (r % b) :: acc⟩⟩) := by
        unfold lp__law_write_0
        rw [show F__law_signs = some ⟨DIG⟩ from rfl]
        simp only [bsome]
        rw [iMod_nat (by omega)]
        simp only [bsome]
        have := Nat.mod_lt r (show 0 < b by omega)
        rw [sg_six (by omega)]
        simp only [bsome]
        rw [tCat_eq (by show [_].length + acc.length ≤ 16777216; simp; omega)]
        simp only [bsome, seqO_nx]
        rw [iDiv_nat (by omega) (by omega)]
        simp only [bsome, seqO_nx]
        rfl
      rw [whileO_succ, c1, bsome, if_pos rfl, c2, seqO_nx, ih n (r / b) _ (half_lt2 hb hr) (by omega) (by rw [List.length_cons]; omega) (by simp)]
      rw [show dgF b (k + 1) r = if r = 0 then [] else r % b :: dgF b k (r / b) from rfl, if_neg h0, List.reverse_cons, List.map_append, List.append_assoc]
      rfl
theorem law_write_ok {n b : Nat} (hb : 2 ≤ b) (hb2 : b ≤ 36) (hn : n < 2 ^ 400) : F__law_write (n : Int) (b : Int) = some (tx (ds4 b n)) := by
  unfold F__law_write fb__law_write
  simp only [bsome, seqO_nx]
  have hF : FUEL = (FUEL - 1) + 1 := by unfold FUEL; omega
  have c1 : lc__law_write_1 ⟨(n : Int), b, ⟨[]⟩⟩ = some true := by
    unfold lc__law_write_1
    simp only [bsome]
    by_cases h : ((n : Nat) : Int) > 0
    · rw [decide_eq_true h]; rfl
    · rw [decide_eq_false h]; rfl
  have c2 : lp__law_write_0 ⟨(n : Int), b, ⟨[]⟩⟩ = some (.nx ⟨((n / b : Nat) : Int), b, ⟨[sg (n % b)]⟩⟩) := by
    unfold lp__law_write_0
    rw [show F__law_signs = some ⟨DIG⟩ from rfl]
    simp only [bsome]
    rw [iMod_nat (by omega)]
    simp only [bsome]
    have := Nat.mod_lt n (show 0 < b by omega)
    rw [sg_six (by omega)]
    simp only [bsome]
    rw [tCat_eq (by show 1 + 0 ≤ 16777216; omega)]
    simp only [bsome, seqO_nx]
    rw [iDiv_nat (by omega) (by omega)]
    simp only [bsome, seqO_nx]
    rfl
  rw [hF, whileO_succ, c1, bsome, if_pos rfl, c2, seqO_nx, lw_loop hb hb2 400 _ (n / b) _ (Nat.lt_of_le_of_lt (Nat.div_le_self _ _) hn) (by unfold FUEL; omega) (by simp) (by simp)]
  simp only [seqO_nx, bsome, seqO_rt, outF_rt]
  have e : tx (ds4 b n) = ⟨((dgF b 400 (n / b)).reverse).map sg ++ [sg (n % b)]⟩ := by
    unfold tx ds4
    rw [List.reverse_cons, List.map_append]
    rfl
  rw [e]
/-! zeros at the end -/
def tz (b : Nat) : Nat → Nat → Nat
  | 0, _ => 0
  | f + 1, n => if n % b = 0 then tz b f (n / b) + 1 else 0
def Tz (b n t : Nat) : Prop := (∀ i, i < t → n / b ^ i % b = 0) ∧ n / b ^ t % b ≠ 0
theorem tz_spec {b : Nat} (hb : 2 ≤ b) : ∀ (f n : Nat), 0 < n → n < 2 ^ f → Tz b n (tz b f n)
  | 0, n, h0, h => by
    have : n = 0 := by simpa using h
    omega
  | f + 1, n, h0, h => by
    unfold tz
    by_cases c : n % b = 0
    · rw [if_pos c]
      have hq : 0 < n / b := by
        rcases Nat.eq_zero_or_pos (n / b) with z | z
        · have := Nat.div_add_mod n b
          rw [z, c] at this
          omega
        · exact z
      obtain ⟨h1, h2⟩ := tz_spec hb f (n / b) hq (half_lt2 hb h)
      have e : ∀ i, n / b ^ (i + 1) = n / b / b ^ i := fun i => by rw [Nat.div_div_eq_div_mul, Nat.pow_succ, Nat.mul_comm b]
      refine ⟨fun i hi => ?_, by rw [e]; exact h2⟩
      cases i with
      | zero => rw [Nat.pow_zero, Nat.div_one]; exact c
      | succ i => rw [e]; exact h1 i (by omega)
    · rw [if_neg c]
      exact ⟨fun i hi => absurd hi (Nat.not_lt_zero _), by rw [Nat.pow_zero, Nat.div_one]; exact c⟩
theorem Tz.uniq {b n t u : Nat} (h : Tz b n t) (h2 : Tz b n u) : t = u := by
  rcases Nat.lt_trichotomy t u with q | q | q
  · exact absurd (h2.1 t q) h.2
  · exact q
  · exact absurd (h.1 u q) h2.2
def tzN (b n : Nat) : Nat := tz b 400 n
theorem tzN_spec {b n : Nat} (hb : 2 ≤ b) (h0 : 0 < n) (h : n < 2 ^ 400) : Tz b n (tzN b n) := tz_spec hb 400 n h0 h
theorem tzN_mul {b n : Nat} (hb : 2 ≤ b) (h0 : 0 < n) (h : n * b < 2 ^ 400) : tzN b (n * b) = tzN b n + 1 := by
  have hn : n < 2 ^ 400 := Nat.lt_of_le_of_lt (Nat.le_mul_of_pos_right _ (by omega)) h
  obtain ⟨h1, h2⟩ := tzN_spec hb h0 hn
  refine (tzN_spec hb (Nat.mul_pos h0 (by omega)) h).uniq ?_
  have e : ∀ i, n * b / b ^ (i + 1) = n / b ^ i := fun i => by
    rw [Nat.pow_succ, Nat.mul_comm (b ^ i) b, ← Nat.div_div_eq_div_mul, Nat.mul_div_cancel _ (by omega)]
  refine ⟨fun i hi => ?_, by rw [e]; exact h2⟩
  cases i with
  | zero => rw [Nat.pow_zero, Nat.div_one, Nat.mul_mod_left]
  | succ i => rw [e]; exact h1 i (by omega)
theorem Tz.lt {b n t : Nat} (hb : 2 ≤ b) (hn : n < 2 ^ 400) (h : Tz b n t) : t < 400 := by
  rcases Nat.lt_or_ge t 400 with q | q
  · exact q
  · have h2 : n / b ^ t = 0 := Nat.div_eq_of_lt (Nat.lt_of_lt_of_le hn (Nat.le_trans (Nat.pow_le_pow_right (by decide) q) (Nat.pow_le_pow_left hb t)))
    have := h.2
    rw [h2, Nat.zero_mod] at this
    exact absurd rfl this
theorem Tz.pos {b n t i : Nat} (hb : 2 ≤ b) (h : Tz b n t) (hi : i ≤ t) : n / b ^ i ≠ 0 := by
  intro z
  have h2 : n / b ^ t = 0 := by
    rw [show t = i + (t - i) by omega, Nat.pow_add, ← Nat.div_div_eq_div_mul, z, Nat.zero_div]
  have := h.2
  rw [h2, Nat.zero_mod] at this
  exact absurd rfl this
theorem law_zeros_ok {b n : Nat} (hb : 2 ≤ b) (hb2 : b ≤ 36) (h0 : 0 < n) (hn : n < 2 ^ 400) : F__law_zeros (n : Int) (b : Int) = some ((tzN b n : Nat) : Int) := by
  have T := tzN_spec hb h0 hn
  have ht := T.lt hb hn
  have hl := ds4_len (b := b) (n := n)
  unfold F__law_zeros fb__law_zeros
  simp only [bsome]
  rw [law_write_ok hb hb2 hn]
  simp only [bsome, seqO_nx]
  have cg : ∀ j, j ≤ tzN b n → lc__law_zeros_1 ⟨(n : Int), (b : Int), tx (ds4 b n), (j : Int)⟩ = some (decide ((⟨[sg (n / b ^ j % b)]⟩ : Tx) = ⟨[48]⟩)) := fun j hj => by
    unfold lc__law_zeros_1
    simp only [bsome, bassoc]
    rw [if_pos (by rw [sizeLine_val, tx_len]; omega)]
    simp only [bsome]
    rw [sIx_tx (by omega) (ds4_get hb hn (.inr (T.pos hb hj)))]
    rfl
  have key := whileO_eq (c := lc__law_zeros_1) (b := lp__law_zeros_0) (fun j => ⟨(n : Int), (b : Int), tx (ds4 b n), (j : Int)⟩) (tzN b n) (fun j hj => by
      refine ⟨?_, ?_⟩
      · rw [cg j (by omega), T.1 j hj]
        rfl
      · unfold lp__law_zeros_0
        simp only [bsome, seqO_nx]
        push_cast
        rfl) (by
      rw [cg _ (Nat.le_refl _), decide_eq_false (fun z => T.2 ?_)]
      have e : sg (n / b ^ tzN b n % b) = sg 0 := (List.cons.inj (congrArg Tx.cs z)).1
      have := Nat.mod_lt (n / b ^ tzN b n) (show 0 < b by omega)
      exact sg_inj (by omega) (by decide) e) FUEL (by unfold FUEL; omega)
  rw [show (((0 : Nat)) : Int) = 0 from rfl] at key
  rw [key]
  simp only [seqO_nx, seqO_rt, outF_rt]
theorem zeros_ok {b n : Nat} (hb : 2 ≤ b) (hb2 : b ≤ 36) (h0 : 0 < n) (hn : n ≤ 1000000) : F_zeros (n : Int) (b : Int) = some ((tzN b n : Nat) : Int) := by
  have hn4 : n < 2 ^ 400 := by omega
  have T := tzN_spec hb h0 hn4
  have ht := T.lt hb hn4
  unfold F_zeros fb_zeros
  simp only [bsome]
  rw [check1_ok hb hb2 (by omega) (by omega)]
  simp only [bsome, seqO_nx]
  unfold F_zeros_of fb_zeros_of
  simp only [bsome, seqO_nx]
  have cg : ∀ j : Nat, lc_zeros_of_1 ⟨((n / b ^ j : Nat) : Int), (b : Int), (j : Int)⟩ = some (decide (((n / b ^ j % b : Nat) : Int) = 0)) := fun j => by
    unfold lc_zeros_of_1
    simp only [bsome]
    rw [iMod_nat (by omega)]
    rfl
  have key := whileO_eq (c := lc_zeros_of_1) (b := lp_zeros_of_0) (fun j => ⟨((n / b ^ j : Nat) : Int), (b : Int), (j : Int)⟩) (tzN b n) (fun j hj => by
      refine ⟨?_, ?_⟩
      · rw [cg j, T.1 j hj]
        rfl
      · unfold lp_zeros_of_0
        simp only [bsome]
        rw [iDiv_nat (by omega) (by omega)]
        simp only [bsome, seqO_nx]
        rw [Nat.div_div_eq_div_mul, ← Nat.pow_succ]
        push_cast
        rfl) (by
      rw [cg _, decide_eq_false (fun z => T.2 (by omega))]) FUEL (by unfold FUEL; omega)
  rw [show (((0 : Nat)) : Int) = 0 from rfl, Nat.pow_zero, Nat.div_one] at key
  rw [key]
  simp only [seqO_nx, seqO_rt, outF_rt, bsome]
end LW

set_option Elab.async false
set_option linter.all false
set_option maxRecDepth 100000
set_option exponentiation.threshold 10000
namespace LW
open PL
def fac : Nat → Nat
  | 0 => 1
  | n + 1 => fac n * (n + 1)
def chkz (b : Nat) : Nat → Nat → Nat → Bool
  | 0, _, _ => true
  | f + 1, n, w => (tzN b w == zz b n) && chkz b f (n + 1) (w * (n + 1))
theorem chkz_ok {b : Nat} : ∀ (f n : Nat), chkz b f n (fac n) = true → ∀ i, i < f → tzN b (fac (n + i)) = zz b (n + i)
  | 0, n, _, i, hi => absurd hi (Nat.not_lt_zero _)
  | f + 1, n, h, i, hi => by
    unfold chkz at h
    rw [Bool.and_eq_true] at h
    cases i with
    | zero => exact eq_of_beq h.1
    | succ i =>
      have := chkz_ok f (n + 1) h.2 i (by omega)
      rw [show n + 1 + i = n + (i + 1) by omega] at this
      exact this
theorem chkz_all : ∀ b : Fin 37, 2 ≤ b.val → chkz b.val 70 0 1 = true := by decide +kernel
theorem tz_fac {b n : Nat} (h : 2 ≤ b) (h2 : b ≤ 36) (hn : n < 70) : tzN b (fac n) = zz b n := by
  have := chkz_ok 70 0 (chkz_all ⟨b, by omega⟩ h) n hn
  rw [Nat.zero_add] at this
  exact this
theorem last_tab : ∀ b : Fin 37, ∀ k : Fin 8, 2 ≤ b.val → 1 ≤ k.val → F_last_of_product ((9 * k.val : Nat) : Int) ((b.val : Nat) : Int) = some ⟨[sg (fac (9 * k.val) / b.val ^ zz b.val (9 * k.val) % b.val)]⟩ := by decide +kernel
theorem last_ok {b n : Nat} (h : 2 ≤ b) (h2 : b ≤ 36) (hn : n < 70) (h0 : 0 < n) (h9 : n % 9 = 0) : F_last_of_product (n : Int) (b : Int) = some ⟨[sg (fac n / b ^ zz b n % b)]⟩ := by
  have := last_tab ⟨b, by omega⟩ ⟨n / 9, by omega⟩ h (by show 1 ≤ n / 9; omega)
  dsimp only at this
  rw [show 9 * (n / 9) = n by omega] at this
  exact this
theorem fac_tab : ∀ n : Fin 70, fac n.val < 2 ^ 400 ∧ 0 < fac n.val := by decide +kernel
theorem fac_lt {n : Nat} (hn : n < 70) : fac n < 2 ^ 400 := (fac_tab ⟨n, hn⟩).1
theorem fac_pos {n : Nat} (hn : n < 70) : 0 < fac n := (fac_tab ⟨n, hn⟩).2
theorem k1 : F_products_with 5 10 = some none := by decide +kernel
theorem k2 : F_products_with 1 10 = some (some ⟨5, 5⟩) := by decide +kernel
theorem k3 : F_products_with 0 2 = some (some ⟨0, 2⟩) := by decide +kernel
theorem k4 : F_zeros_of_product 0 7 = some 0 := by decide +kernel
theorem k5 : F_last_of_product 10 10 = some ⟨[56]⟩ := by decide +kernel
end LW

set_option Elab.async false
set_option linter.all false
set_option maxRecDepth 100000
set_option exponentiation.threshold 10000
namespace LW
open PL
def Lsp (b m L : Nat) : Prop := ∀ n, m ≤ zz b n ↔ L ≤ n
theorem least_ok {b m : Nat} (hb : 2 ≤ b) (hb2 : b ≤ 36) (hm : m ≤ 20000) : ∃ L : Nat, F_least_with (m : Int) (b : Int) = some (L : Int) ∧ Lsp b m L ∧ L ≤ 1000000 := by
  have hH : b * (m + 1) ≤ 36 * 20001 := Nat.mul_le_mul hb2 (by omega)
  have key := whileO_all (c := lc_least_with_1) (b := lp_least_with_0) (fun g => ∃ lo hi : Nat, g = ⟨(m : Int), (b : Int), (lo : Int), (hi : Int), 0⟩ ∧ lo ≤ hi ∧ hi ≤ b * (m + 1) ∧ (∀ n, n < lo → zz b n < m) ∧ m ≤ zz b hi) (fun g => (g.v_high - g.v_low).toNat) (fun g hg => by
    obtain ⟨lo, hi, rfl, h1, h2, h3, h4⟩ := hg
    by_cases c : lo < hi
    · right
      refine ⟨?_, ?_⟩
      · unfold lc_least_with_1
        simp only [bsome]
        rw [decide_eq_true (by omega)]
      · have hmid : iDiv ((lo : Int) + (hi : Int)) 2 = some (((lo + hi) / 2 : Nat) : Int) := by
          rw [iDiv_eq (by decide) (by decide)]
          push_cast
          rfl
        unfold lp_least_with_0
        simp only [bsome, bassoc]
        rw [hmid]
        simp only [bsome, seqO_nx]
        rw [product_zeros_ok hb hb2 (by omega)]
        simp only [bsome]
        by_cases q : zz b ((lo + hi) / 2) < m
        · rw [decide_eq_true (show ((zz b ((lo + hi) / 2) : Nat) : Int) < (m : Int) by omega), if_pos rfl]
          simp only [seqO_nx]
          refine ⟨_, rfl, ⟨(lo + hi) / 2 + 1, hi, ?_, by omega, h2, fun n hn => ?_, h4⟩, ?_⟩
          · congr 1
          · exact Nat.lt_of_le_of_lt (zz_mono hb hb2 (by omega)) q
          · dsimp only
            omega
        · rw [decide_eq_false (show ¬ ((zz b ((lo + hi) / 2) : Nat) : Int) < (m : Int) by omega), if_neg (by decide)]
          simp only [seqO_nx]
          refine ⟨_, rfl, ⟨lo, (lo + hi) / 2, rfl, by omega, by omega, h3, by omega⟩, ?_⟩
          dsimp only
          omega
    · left
      unfold lc_least_with_1
      simp only [bsome]
      rw [decide_eq_false (by omega)]) FUEL ⟨(m : Int), (b : Int), 0, ((b * (m + 1) : Nat) : Int), 0⟩ ⟨0, _, rfl, Nat.zero_le _, Nat.le_refl _, fun n hn => absurd hn (Nat.not_lt_zero _), zz_high hb hb2⟩ (by
        unfold FUEL
        dsimp only
        omega)
  obtain ⟨g, e, ⟨lo, hi, rfl, h1, h2, h3, h4⟩, ec⟩ := key
  have hlh : ¬ lo < hi := by
    intro c
    unfold lc_least_with_1 at ec
    simp only [bsome] at ec
    rw [decide_eq_true (by omega)] at ec
    cases ec
  have : lo = hi := by omega
  subst this
  refine ⟨lo, ?_, fun n => ⟨fun h => ?_, fun h => Nat.le_trans h4 (zz_mono hb hb2 h)⟩, by omega⟩
  · unfold F_least_with fb_least_with
    simp only [bsome, seqO_nx]
    rw [show (m : Int) + 1 = ((m + 1 : Nat) : Int) by push_cast; rfl, iMul_nat (by omega) (by omega)]
    simp only [bsome, seqO_nx]
    rw [e]
    simp only [seqO_nx, seqO_rt, outF_rt]
  · rcases Nat.lt_or_ge n lo with q | q
    · have := h3 n q
      omega
    · exact q
theorem products_ok {b m : Nat} (hb : 2 ≤ b) (hb2 : b ≤ 36) (hm : m ≤ 10000) : ∃ A B : Nat, F_products_with (m : Int) (b : Int) = some (if A < B then some ⟨(A : Int), ((B - A : Nat) : Int)⟩ else none) ∧ Lsp b m A ∧ Lsp b (m + 1) B ∧ A ≤ 1000000 ∧ B ≤ 1000000 := by
  obtain ⟨A, eA, hA, hA2⟩ := least_ok hb hb2 (m := m) (by omega)
  obtain ⟨B, eB, hB, hB2⟩ := least_ok hb hb2 (m := m + 1) (by omega)
  refine ⟨A, B, ?_, hA, hB, hA2, hB2⟩
  unfold F_products_with fb_products_with
  simp only [bsome]
  rw [check1_ok hb hb2 (by omega) (by omega)]
  simp only [bsome, seqO_nx]
  rw [eA]
  simp only [bsome, seqO_nx]
  rw [show (m : Int) + 1 = ((m + 1 : Nat) : Int) by push_cast; rfl, eB]
  simp only [bsome, seqO_nx]
  by_cases c : A < B
  · rw [decide_eq_true (show (B : Int) > (A : Int) by omega), if_pos rfl, if_pos c]
    simp only [bsome, seqO_rt, outF_rt]
    rw [show (B : Int) - (A : Int) = ((B - A : Nat) : Int) by omega]
  · rw [decide_eq_false (show ¬ (B : Int) > (A : Int) by omega), if_neg (by decide), if_neg c]
    simp only [bsome, seqO_rt, outF_rt]
/-! the rows with so many -/
theorem rng_append {lo : Int} : ∀ {n : Nat}, rng lo (n + 1) = rng lo n ++ [lo + (n : Int)] := fun {n} => by
  unfold rng
  rw [List.range_succ, List.map_append]
  rfl
theorem filt_rng {A B : Nat} {p : Int → Bool} : ∀ N : Nat, (∀ i : Nat, i < N → p (i : Int) = decide (A ≤ i ∧ i < B)) → (rng 0 N).filter p = rng (A : Int) (min B N - A)
  | 0, hp => by
    rw [rng_zero]
    rw [show min B 0 - A = 0 by omega]
    rfl
  | N + 1, hp => by
    rw [rng_append, List.filter_append, filt_rng N fun i hi => hp i (by omega), Int.zero_add]
    have h := hp N (by omega)
    by_cases c : A ≤ N ∧ N < B
    · rw [List.filter_cons_of_pos (by rw [h, decide_eq_true c]), List.filter_nil, show min B N - A = N - A by omega, show min B (N + 1) - A = N - A + 1 by omega, rng_append, show (A : Int) + ((N - A : Nat) : Int) = (N : Int) by omega]
    · rw [List.filter_cons_of_neg (by rw [h, decide_eq_false c]; decide), List.filter_nil, List.append_nil]
      by_cases c2 : N < A
      · rw [show min B N - A = 0 by omega, show min B (N + 1) - A = 0 by omega]
      · rw [show min B N - A = min B (N + 1) - A by omega]
theorem rng_len {lo : Int} {n : Nat} : (rng lo n).length = n := by
  unfold rng
  rw [List.length_map, List.length_range]
end LW

set_option Elab.async false
set_option linter.all false
set_option maxRecDepth 100000
set_option exponentiation.threshold 10000
namespace LW
open PL
def tabZ (b k : Nat) : List Int := (List.range (k + 1)).map fun i => ((zz b i : Nat) : Int)
theorem tabZ_len {b k : Nat} : (tabZ b k).length = k + 1 := by unfold tabZ; rw [List.length_map, List.length_range]
theorem tabZ_succ {b k : Nat} : tabZ b (k + 1) = tabZ b k ++ [((zz b (k + 1) : Nat) : Int)] := by
  unfold tabZ
  rw [List.range_succ, List.map_append]
  rfl
theorem tabZ_at {b k i : Nat} (h : i ≤ k) : L2.atI (tabZ b k) (i : Int) = some ((zz b i : Nat) : Int) := by
  rw [LW.atI_nat (by rw [tabZ_len]; omega)]
  unfold tabZ
  rw [List.getElem?_map, List.getElem?_range (by omega)]
  rfl
theorem rng_get {lo x : Int} {n j : Nat} (h : (rng lo n)[j]? = some x) : x = lo + (j : Int) ∧ j < n := by
  unfold rng at h
  rw [List.getElem?_map] at h
  cases hq : (List.range n)[j]? with
  | none => rw [hq] at h; cases h
  | some q =>
    rw [hq] at h
    have h1 := List.getElem?_eq_some_iff.mp hq
    obtain ⟨h2, h3⟩ := h1
    rw [List.getElem_range] at h3
    cases h
    rw [List.length_range] at h2
    subst h3
    exact ⟨rfl, h2⟩
theorem small_show {i : Nat} (h : i < 2 ^ 1000) : ∃ r, rShow (i : Int) = some r := rShow_int (by
  have := log2_lt_pow (a := i) (k := 1000) h
  have e : ((i : Nat) : Int).natAbs = i := by simp
  rw [e]
  omega)
theorem one_show {k : Nat} : ∃ r, rShow (⟨[sg k]⟩ : Tx) = some r := rShow_tx (by simp) fun c hc => by
  have : c = sg k := by simpa using hc
  rw [this]
  exact sg_lt
theorem law0_ok {ns l : List Int} {turn : Int} {b j most : Nat} (hb : 2 ≤ b) (hb2 : b ≤ 36) (hj : j + 1 ≤ most) (hm : most < 70) :
    lp_law_0 ⟨ns, l, turn, (b : Int), ((fac j : Nat) : Int), ((zz b j : Nat) : Int), (most : Int), tabZ b j, ((j + 1 : Nat) : Int), 0, none, 0, [], none, 0, 0⟩ =
      some (.nx ⟨ns, l, turn, (b : Int), ((fac (j + 1) : Nat) : Int), ((zz b (j + 1) : Nat) : Int), (most : Int), tabZ b (j + 1), 0, 0, none, 0, [], none, 0, 0⟩) := by
  have f1 := fac_lt (n := j) (by omega)
  have f2 := fac_lt (n := j + 1) (by omega)
  have f3 := fac_pos (n := j + 1) (by omega)
  have hz := tz_fac hb hb2 (n := j + 1) (by omega)
  have hmono : zz b j ≤ zz b (j + 1) := zz_mono hb hb2 (by omega)
  have hle := zz_le (b := b) (n := j + 1) hb hb2
  unfold lp_law_0
  simp only [bsome, bassoc]
  rw [iMul_big (k := 400) (m := 64) f1 (by omega) (by decide)]
  rw [show fac j * (j + 1) = fac (j + 1) from rfl]
  simp only [bsome, seqO_nx]
  rw [law_zeros_ok hb hb2 f3 f2, hz]
  simp only [bsome, seqO_nx]
  rw [zeros_of_product_ok hb hb2 (by omega)]
  simp only [bsome]
  obtain ⟨r, er⟩ := small_show (i := zz b (j + 1)) (by omega)
  rw [er]
  simp only [bsome, decide_true, Bool.not_true, Bool.false_eq_true, if_false]
  rw [decide_eq_false (show ¬ ((zz b (j + 1) : Nat) : Int) < ((zz b j : Nat) : Int) by omega), if_neg (by decide), law_due_ok hb hb2 (by omega)]
  simp only [bsome, decide_true, Bool.not_true, Bool.false_eq_true, if_false, seqO_nx]
  rw [show (9 : Int) = ((9 : Nat) : Int) from rfl, iMod_nat (by decide)]
  simp only [bsome]
  have k1 : (if decide ((((j + 1) % 9 : Nat) : Int) = 0) = true then (F_last_of_product ((j + 1 : Nat) : Int) (b : Int)).bind fun a => (rShow a).bind fun x1772 => (F__law_write ((fac (j + 1) : Nat) : Int) (b : Int)).bind fun x1769 => (F__law_write ((fac (j + 1) : Nat) : Int) (b : Int)).bind fun x => (if x.cs.length ≤ PySem.sizeLine then some (x.cs.length : Int) else none).bind fun a => (sIx x1769 (a - 1 - ((zz b (j + 1) : Nat) : Int))).bind fun a => (rShow a).bind fun a => some (!decide (x1772 = a)) else some false) = some false := by
    by_cases c : (j + 1) % 9 = 0
    · have T := tzN_spec (b := b) hb f3 f2
      have hl := ds4_len (b := b) (n := fac (j + 1))
      rw [decide_eq_true (by omega), if_pos rfl, last_ok hb hb2 (by omega) (by omega) c, law_write_ok hb hb2 f2]
      simp only [bsome]
      obtain ⟨r2, er2⟩ := one_show (k := fac (j + 1) / b ^ zz b (j + 1) % b)
      rw [er2]
      simp only [bsome]
      rw [if_pos (by rw [sizeLine_val, tx_len]; omega)]
      simp only [bsome]
      rw [sIx_tx (by omega) (ds4_get (i := zz b (j + 1)) hb f2 (.inr (T.pos hb (by omega))))]
      simp only [bsome]
      rw [er2]
      simp
    · rw [decide_eq_false (by omega), if_neg (by decide)]
  rw [k1]
  simp only [bsome, Bool.false_eq_true, if_false, seqO_nx]
  rw [push_eq (by rw [tabZ_len]; omega), tabZ_succ]
  simp only [bsome, seqO_nx]
theorem law0_all {ns l : List Int} {turn : Int} {b most : Nat} (hb : 2 ≤ b) (hb2 : b ≤ 36) (hm : most < 70) :
    forO (fun (s : S_law) (t : Int) => { s with v_number := t }) lp_law_0 (rng 1 most) ⟨ns, l, turn, (b : Int), 1, 0, (most : Int), [0], 0, 0, none, 0, [], none, 0, 0⟩ =
      some (.nx ⟨ns, l, turn, (b : Int), ((fac most : Nat) : Int), ((zz b most : Nat) : Int), (most : Int), tabZ b most, 0, 0, none, 0, [], none, 0, 0⟩) := by
  have hl := forO_eq (set := fun (s : S_law) (t : Int) => { s with v_number := t }) (b := lp_law_0) (fun j => (⟨ns, l, turn, (b : Int), ((fac j : Nat) : Int), ((zz b j : Nat) : Int), (most : Int), tabZ b j, 0, 0, none, 0, [], none, 0, 0⟩ : S_law)) (rng 1 most) (fun j x hx => by
    obtain ⟨rfl, h2⟩ := rng_get hx
    rw [show (1 : Int) + (j : Int) = ((j + 1 : Nat) : Int) by push_cast; omega]
    exact law0_ok hb hb2 (by omega) hm)
  rw [rng_len] at hl
  have z0 : zz b 0 = 0 := Nat.le_zero.mp (zz_le hb hb2)
  have t0 : tabZ b 0 = [0] := by
    show [((zz b 0 : Nat) : Int)] = _
    rw [z0]
    rfl
  rw [z0, t0] at hl
  exact hl
theorem rShow_po {x : Option (T2 Int Int)} (h : ∀ t, x = some t → t.a.natAbs.log2 < 1920 ∧ t.b.natAbs.log2 < 1920) : ∃ r, rShow x = some r := by
  cases x with
  | none => exact ⟨_, rfl⟩
  | some t =>
    obtain ⟨h1, h2⟩ := h t rfl
    obtain ⟨r, e⟩ := rShow_pair h1 h2
    exact ⟨r, e⟩
theorem dNe_int (x y : List Int) : dNe x y = some (!decide (x = y)) := by
  have h : ∀ l : List Int, EqT.ok l = true := fun l => by
    show l.all (fun _ => true) = true
    simp
  exact if_pos ⟨h _, h _⟩
theorem law1_ok {ns l : List Int} {turn w : Int} {b m most : Nat} (hb : 2 ≤ b) (hb2 : b ≤ 36) (hmz : m < zz b most) (hm : most < 70) :
    lp_law_1 ⟨ns, l, turn, (b : Int), w, ((zz b most : Nat) : Int), (most : Int), tabZ b most, 0, (m : Int), none, 0, [], none, 0, 0⟩ =
      some (.nx ⟨ns, l, turn, (b : Int), w, ((zz b most : Nat) : Int), (most : Int), tabZ b most, 0, 0, none, 0, [], none, 0, 0⟩) := by
  have hle := zz_le (b := b) (n := most) hb hb2
  obtain ⟨A, B, eP, hA, hB, hA2, hB2⟩ := products_ok hb hb2 (m := m) (by omega)
  have hBm : B ≤ most := (hB most).mp (by omega)
  have hzi : ∀ i, zz b i = m ↔ A ≤ i ∧ i < B := fun i => by
    have h1 := hA i
    have h2 := hB i
    omega
  unfold lp_law_1
  simp only [bsome, bassoc]
  rw [show (most : Int) + 1 = ((most + 1 : Nat) : Int) by push_cast; rfl, rng1_eq (by omega) (by omega)]
  simp only [bsome]
  rw [lNew_eq (by rw [rng_len]; omega)]
  simp only [bsome]
  have hc := compO_eq (t := fun s : S_law × Int => (L2.atI s.1.v_table s.2).bind fun x1880 => some (decide (x1880 = s.1.v_many))) (f := fun s : S_law × Int => some s.2) (set := fun t : Int => ((⟨ns, l, turn, (b : Int), w, ((zz b most : Nat) : Int), (most : Int), tabZ b most, 0, (m : Int), none, 0, [], none, 0, 0⟩ : S_law), t)) (p := fun t : Int => decide (zz b t.toNat = m)) (h := fun t : Int => t) (xs := rng 0 (((most + 1 : Nat)) : Int).toNat) (fun x hx => by
      have h1 := rng_mem hx
      obtain ⟨i, rfl⟩ : ∃ i : Nat, x = (i : Int) := ⟨x.toNat, by omega⟩
      show ((L2.atI (tabZ b most) (i : Int)).bind fun x1880 => some (decide (x1880 = (m : Int)))) = _
      rw [tabZ_at (by omega), bsome, Int.toNat_natCast]
      congr 1
      rw [decide_eq_decide]
      omega) (fun x _ _ => rfl)
  rw [hc, List.map_id']
  rw [Int.toNat_natCast, filt_rng (A := A) (B := B) (most + 1) fun i hi => by
    rw [Int.toNat_natCast, decide_eq_decide]
    exact hzi i]
  rw [show min B (most + 1) - A = B - A by omega]
  simp only [bsome, seqO_nx]
  rw [eP]
  simp only [bsome, seqO_nx]
  have hdn : dNe (rng (A : Int) (B - A)) [] = some (decide (A < B)) := by
    cases hk : B - A with
    | zero =>
      rw [rng_zero, decide_eq_false (by omega)]
      rfl
    | succ k =>
      rw [rng_succ, decide_eq_true (by omega)]
      rw [dNe_int]
      rfl
  rw [hdn]
  simp only [bsome]
  by_cases c : A < B
  · rw [decide_eq_true c, if_pos rfl, if_pos c]
    have hat : L2.atI (rng (A : Int) (B - A)) 0 = some (A : Int) := by
      obtain ⟨k, hk⟩ : ∃ k, B - A = k + 1 := ⟨B - A - 1, by omega⟩
      rw [hk, rng_succ, show (0 : Int) = ((0 : Nat) : Int) from rfl, LW.atI_nat (by rw [List.length_cons]; omega)]
      rfl
    rw [hat]
    simp only [bsome, seqO_nx]
    rw [rng_len]
    obtain ⟨r, er⟩ := rShow_po (x := some (⟨(A : Int), ((B - A : Nat) : Int)⟩ : T2 Int Int)) fun t ht => by
      cases ht
      refine ⟨?_, ?_⟩
      · exact Nat.lt_trans (log2_lt_pow (k := 64) (by simp; omega)) (by decide)
      · exact Nat.lt_trans (log2_lt_pow (k := 64) (by simp; omega)) (by decide)
    rw [er]
    simp only [bsome, decide_true, Bool.not_true, Bool.false_eq_true, if_false, seqO_nx]
  · rw [decide_eq_false c, if_neg (by decide), if_neg c]
    simp only [bsome, seqO_nx]
    obtain ⟨r, er⟩ := rShow_po (x := (none : Option (T2 Int Int))) fun t ht => by cases ht
    rw [er]
    simp only [bsome, decide_true, Bool.not_true, Bool.false_eq_true, if_false, seqO_nx]
end LW

set_option Elab.async false
set_option linter.all false
set_option maxRecDepth 100000
set_option exponentiation.threshold 10000
namespace LW
open PL
theorem base_pick {r1 r2 r3 : Int} (h1 : 0 ≤ r1 ∧ r1 < 35) (h2 : 0 ≤ r2 ∧ r2 < 5) (h3 : 0 ≤ r3 ∧ r3 < 2) : ∃ c : Int, L2.atI [10, 12, 16, 8, 30] r2 = some c ∧ ∃ b : Nat, L2.atI [2 + r1, c] r3 = some (b : Int) ∧ 2 ≤ b ∧ b ≤ 36 := by
  obtain ⟨c, hc, hc2⟩ : ∃ c : Int, L2.atI [10, 12, 16, 8, 30] r2 = some c ∧ 2 ≤ c ∧ c ≤ 36 := by
    rcases (show r2 = 0 ∨ r2 = 1 ∨ r2 = 2 ∨ r2 = 3 ∨ r2 = 4 by omega) with rfl | rfl | rfl | rfl | rfl
    · exact ⟨_, rfl, by omega, by omega⟩
    · exact ⟨_, rfl, by omega, by omega⟩
    · exact ⟨_, rfl, by omega, by omega⟩
    · exact ⟨_, rfl, by omega, by omega⟩
    · exact ⟨_, rfl, by omega, by omega⟩
  refine ⟨c, hc, ?_⟩
  rcases (show r3 = 0 ∨ r3 = 1 by omega) with rfl | rfl
  · refine ⟨(2 + r1).toNat, ?_, by omega, by omega⟩
    rw [Int.toNat_of_nonneg (by omega)]
    rfl
  · refine ⟨c.toNat, ?_, by omega, by omega⟩
    rw [Int.toNat_of_nonneg (by omega)]
    rfl
theorem pick2 {r : Int} (h : 0 ≤ r ∧ r < 2) : ∃ c : Nat, L2.atI [1, 16] r = some (c : Int) ∧ c ≤ 16 := by
  rcases (show r = 0 ∨ r = 1 by omega) with rfl | rfl
  · exact ⟨1, rfl, by omega⟩
  · exact ⟨16, rfl, by omega⟩
theorem body_ok {ns l : List Int} {turn : Int} (hbd : BdD l) (hl : l.length ≤ 3780) (h0 : 0 ≤ turn) (h1 : turn < 3) :
    lp_law_2 ⟨ns, l, turn, 0, 0, 0, 0, [], 0, 0, none, 0, [], none, 0, 0⟩ = some (.nx ⟨ns, l, 0, 0, 0, 0, 0, [], 0, 0, none, 0, [], none, 0, 0⟩) := by
  obtain ⟨r1, e1, p1, q1⟩ := mix_ok hbd hl (k := turn) (m := 35) (by omega) (by omega) (by decide)
  obtain ⟨r2, e2, p2, q2⟩ := mix_ok hbd hl (k := 3 + turn) (m := 5) (by omega) (by omega) (by decide)
  obtain ⟨r3, e3, p3, q3⟩ := mix_ok hbd hl (k := 6 + turn) (m := 2) (by omega) (by omega) (by decide)
  obtain ⟨r4, e4, p4, q4⟩ := mix_ok hbd hl (k := 9 + turn) (m := 60) (by omega) (by omega) (by decide)
  obtain ⟨r5, e5, p5, q5⟩ := mix_ok hbd hl (k := 12 + turn) (m := 60000) (by omega) (by omega) (by decide)
  obtain ⟨r6, e6, p6, q6⟩ := mix_ok hbd hl (k := 15 + turn) (m := 2) (by omega) (by omega) (by decide)
  obtain ⟨r7, e7, p7, q7⟩ := mix_ok hbd hl (k := 18 + turn) (m := 10001) (by omega) (by omega) (by decide)
  obtain ⟨c, ec, b, eb, hb, hb2⟩ := base_pick ⟨p1, q1⟩ ⟨p2, q2⟩ ⟨p3, q3⟩
  obtain ⟨d, ed, hd⟩ := pick2 ⟨p6, q6⟩
  obtain ⟨most, hmost, hm⟩ : ∃ most : Nat, 10 + r4 = (most : Int) ∧ most < 70 := ⟨(10 + r4).toNat, by omega, by omega⟩
  obtain ⟨x, hx, hx2⟩ : ∃ x : Nat, r5 = (x : Int) ∧ x < 60000 := ⟨r5.toNat, by omega, by omega⟩
  obtain ⟨m, hmm, hm2⟩ : ∃ m : Nat, r7 = (m : Int) ∧ m ≤ 10000 := ⟨r7.toNat, by omega, by omega⟩
  subst hx hmm
  have hzl := zz_le (b := b) (n := most) hb hb2
  have hxd : x * d ≤ 59999 * 16 := Nat.mul_le_mul (by omega) hd
  unfold lp_law_2
  simp only [bsome, bassoc]
  rw [e1]
  simp only [bsome]
  rw [e2]
  simp only [bsome]
  rw [ec]
  simp only [bsome]
  rw [e3]
  simp only [bsome]
  rw [eb]
  simp only [bsome, seqO_nx]
  rw [e4]
  simp only [bsome, seqO_nx]
  rw [hmost, rng2_eq (by omega) (by omega), show ((most : Int) + 1 - 1).toNat = most by omega]
  simp only [bsome]
  rw [law0_all hb hb2 hm]
  simp only [bsome, seqO_nx]
  rw [rng1_eq (by omega) (by omega)]
  simp only [bsome]
  rw [forO_same (set := fun (s : S_law) (t : Int) => { s with v_many := t }) (b := lp_law_1) (g := (⟨ns, l, turn, (b : Int), ((fac most : Nat) : Int), ((zz b most : Nat) : Int), (most : Int), tabZ b most, 0, 0, none, 0, [], none, 0, 0⟩ : S_law)) fun y hy => by
    have h1 := rng_mem hy
    obtain ⟨i, rfl⟩ : ∃ i : Nat, y = (i : Int) := ⟨y.toNat, by omega⟩
    exact law1_ok hb hb2 (by omega) hm]
  simp only [bsome, seqO_nx]
  rw [e5]
  simp only [bsome]
  rw [e6]
  simp only [bsome]
  rw [ed]
  simp only [bsome]
  rw [iMul_nat (by omega) (by omega)]
  simp only [bsome, seqO_nx]
  rw [show (1 : Int) + ((x * d : Nat) : Int) = ((1 + x * d : Nat) : Int) by push_cast; rfl]
  generalize hN : 1 + x * d = N
  have hN1 : 0 < N := by omega
  have hN2 : N ≤ 1000000 := by omega
  clear hN hxd
  have hN4 : N < 2 ^ 400 := by omega
  have hNb : N * b ≤ 1000000 * 36 := Nat.mul_le_mul hN2 hb2
  have hNb1 : 0 < N * b := Nat.mul_pos hN1 (by omega)
  rw [zeros_of_product_ok hb hb2 hN2, law_due_ok hb hb2 (by omega)]
  simp only [bsome, decide_true, Bool.not_true, Bool.false_eq_true, if_false]
  rw [zeros_ok hb hb2 hN1 hN2, law_zeros_ok hb hb2 hN1 hN4]
  simp only [bsome, decide_true, Bool.not_true, Bool.false_eq_true, if_false, seqO_nx]
  rw [iMul_nat (by omega) (by omega)]
  simp only [bsome]
  rw [iDiv_nat (by omega) (by omega), Nat.mul_div_cancel _ (show 0 < b by omega)]
  simp only [bsome]
  rw [zeros_ok hb hb2 hN1 hN2, law_zeros_ok hb hb2 hN1 hN4]
  simp only [bsome, decide_true, Bool.not_true, Bool.false_eq_true, if_false]
  have k1 : (if decide (((N * b : Nat) : Int) ≤ 1000000) = true then (F_zeros ((N * b : Nat) : Int) (b : Int)).bind fun x2237 => some (!decide (x2237 = 1 + ((tzN b N : Nat) : Int))) else some false) = some false := by
    by_cases q : N * b ≤ 1000000
    · rw [decide_eq_true (by omega), if_pos rfl, zeros_ok hb hb2 hNb1 q, tzN_mul hb hN1 (by omega), bsome, decide_eq_true (by push_cast; omega)]
      rfl
    · rw [decide_eq_false (by omega), if_neg (by decide)]
  rw [k1]
  simp only [bsome, Bool.false_eq_true, if_false, seqO_nx]
  rw [e7]
  simp only [bsome, seqO_nx]
  obtain ⟨A, B, eP, hA, hB, hA2, hB2⟩ := products_ok hb hb2 (m := m) hm2
  have hzi : ∀ i, zz b i = m ↔ A ≤ i ∧ i < B := fun i => by
    have h1 := hA i
    have h2 := hB i
    omega
  rw [eP]
  simp only [bsome, seqO_nx]
  by_cases c : A < B
  · rw [if_pos c]
    simp only [bsome, Option.isNone_some, Bool.not_false, if_true, seqO_nx]
    rw [decide_eq_false (show ¬ ((B - A : Nat) : Int) < 1 by omega)]
    simp only [Bool.false_eq_true, if_false]
    rw [law_due_ok hb hb2 (by omega), (hzi A).mpr ⟨by omega, c⟩]
    simp only [bsome, decide_true, Bool.not_true, Bool.false_eq_true, if_false]
    rw [show (A : Int) + ((B - A : Nat) : Int) - 1 = ((B - 1 : Nat) : Int) by omega, law_due_ok hb hb2 (by omega), (hzi (B - 1)).mpr ⟨by omega, by omega⟩]
    simp only [bsome, decide_true, Bool.not_true, Bool.false_eq_true, if_false]
    rw [show (A : Int) + ((B - A : Nat) : Int) = (B : Int) by omega, law_due_ok hb hb2 (by omega)]
    simp only [bsome]
    have nB : zz b B ≠ m := fun z => by
      have := (hzi B).mp z
      omega
    rw [decide_eq_false (show ¬ ((zz b B : Nat) : Int) = (m : Int) by omega)]
    simp only [bsome, Bool.false_eq_true, if_false, seqO_nx]
    have k2 : (if decide ((A : Int) > 0) = true then (F__law_due ((A : Int) - 1) (b : Int)).bind fun x2488 => some (decide (x2488 = (m : Int))) else some false) = some false := by
      by_cases q : 0 < A
      · have nA : zz b (A - 1) ≠ m := fun z => by
          have := (hzi (A - 1)).mp z
          omega
        rw [decide_eq_true (by omega), if_pos rfl, show (A : Int) - 1 = ((A - 1 : Nat) : Int) by omega, law_due_ok hb hb2 (by omega), bsome, decide_eq_false (by omega)]
      · rw [decide_eq_false (by omega), if_neg (by decide)]
    rw [k2]
    simp only [bsome, Bool.false_eq_true, if_false, seqO_nx]
  · rw [if_neg c]
    simp only [bsome, Option.isNone_none, Bool.not_true, Bool.false_eq_true, if_false, seqO_nx]
theorem law_true (ns : List Int) (h : ns.length ≤ 63) : F_law ns = some true := by
  unfold F_law fb_law
  simp only [bsome]
  obtain ⟨l, e, hl, hb⟩ := draws_ok ns h
  rw [e]
  simp only [bsome, seqO_nx]
  rw [rng1_eq (by decide) (by decide)]
  simp only [bsome]
  rw [forO_same (g := (⟨ns, l, 0, 0, 0, 0, 0, [], 0, 0, none, 0, [], none, 0, 0⟩ : S_law)) fun x hx => by
    have h1 := rng_mem hx
    exact body_ok hb hl (by omega) (by omega)]
  simp only [seqO_nx]
  rw [k1, k2, k3, k4, k5]
  rfl
end LW

open PySem PySem.Spec PySem.W PyProof.Rows L2 PL LW
set_option maxHeartbeats 0 in
theorem PySem.Challenge.cw_reckonedbyhand_k55_whole_zeros_of_produc_holds : PySem.Challenge.rw_reckonedbyhand_k55_whole_zeros_of_produc.Holds := by
  w_on; o_law; k_head; (case hw => w_witness2)
  k_fill
  refine PL.walk_at (l := PySem.Challenge.rw_reckonedbyhand_k55_whole_zeros_of_produc) (n := 63) (x := "script") (sp := fun w => spF _ N_law 1 sa_law .a (fun a => F_law a.1)) rfl (by decide) rfl (fun w h Y => PySem.W.kIn_of Y) ?F (fun w H a ns hl hS => sp_law .b nofun hS (LW.law_true ns hl) (j := 14) rfl rfl)
  case F =>
    intro w mg fa h KX G hmg
    obtain ⟨T, e, hb⟩ : ∃ T : LW.Top _ mg, T.a_law = fa ∧ (∀ (s : Shared) (u : Value), BindsTo s T.d_law ⟨[u], []⟩ [("script", u)]) := by
      refine' LW.mk_top KX G hmg ?a__law_draws ?l__law_draws ?c__law_draws ?k__law_draws ?a__law_mix ?l__law_mix ?c__law_mix ?k__law_mix ?a_check_base ?l_check_base ?c_check_base ?k_check_base ?a_check_numbers ?l_check_numbers ?c_check_numbers ?k_check_numbers ?a_power_in ?l_power_in ?c_power_in ?k_power_in ?a_primes_of ?l_primes_of ?c_primes_of ?k_primes_of ?a_product_zeros ?l_product_zeros ?c_product_zeros ?k_product_zeros ?a_least_with ?l_least_with ?c_least_with ?k_least_with ?a_products_with ?l_products_with ?c_products_with ?k_products_with ?a__law_signs ?l__law_signs ?c__law_signs ?k__law_signs ?a__law_write ?l__law_write ?c__law_write ?k__law_write ?a__law_zeros ?l__law_zeros ?c__law_zeros ?k__law_zeros ?a_zeros_of_product ?l_zeros_of_product ?c_zeros_of_product ?k_zeros_of_product ?a_last_of_product ?l_last_of_product ?c_last_of_product ?k_last_of_product ?a__law_primes ?l__law_primes ?c__law_primes ?k__law_primes ?a__law_due ?l__law_due ?c__law_due ?k__law_due ?a_zeros_of ?l_zeros_of ?c_zeros_of ?k_zeros_of ?a_zeros ?l_zeros ?c_zeros ?k_zeros ?a_law ?l_law ?c_law ?k_law ?z_abs ?z_int ?z_len ?z_min ?z_range ?z_repr ?q_DIGITS ?q_LEAST_BASE ?q_MOST_BASE ?q_MOST_NUMBER ?q_MOST_PRODUCT ?q_MOST_ZEROS
      (case a__law_draws => k_is)
      (case l__law_draws => k_is)
      (case c__law_draws => k_is)
      (case k__law_draws => k_is)
      (case a__law_mix => k_is)
      (case l__law_mix => k_is)
      (case c__law_mix => k_is)
      (case k__law_mix => k_is)
      (case a_check_base => k_is)
      (case l_check_base => k_is)
      (case c_check_base => k_is)
      (case k_check_base => k_is)
      (case a_check_numbers => k_is)
      (case l_check_numbers => k_is)
      (case c_check_numbers => k_is)
      (case k_check_numbers => k_is)
      (case a_power_in => k_is)
      (case l_power_in => k_is)
      (case c_power_in => k_is)
      (case k_power_in => k_is)
      (case a_primes_of => k_is)
      (case l_primes_of => k_is)
      (case c_primes_of => k_is)
      (case k_primes_of => k_is)
      (case a_product_zeros => k_is)
      (case l_product_zeros => k_is)
      (case c_product_zeros => k_is)
      (case k_product_zeros => k_is)
      (case a_least_with => k_is)
      (case l_least_with => k_is)
      (case c_least_with => k_is)
      (case k_least_with => k_is)
      (case a_products_with => k_is)
      (case l_products_with => k_is)
      (case c_products_with => k_is)
      (case k_products_with => k_is)
      (case a__law_signs => k_is)
      (case l__law_signs => k_is)
      (case c__law_signs => k_is)
      (case k__law_signs => k_is)
      (case a__law_write => k_is)
      (case l__law_write => k_is)
      (case c__law_write => k_is)
      (case k__law_write => k_is)
      (case a__law_zeros => k_is)
      (case l__law_zeros => k_is)
      (case c__law_zeros => k_is)
      (case k__law_zeros => k_is)
      (case a_zeros_of_product => k_is)
      (case l_zeros_of_product => k_is)
      (case c_zeros_of_product => k_is)
      (case k_zeros_of_product => k_is)
      (case a_last_of_product => k_is)
      (case l_last_of_product => k_is)
      (case c_last_of_product => k_is)
      (case k_last_of_product => k_is)
      (case a__law_primes => k_is)
      (case l__law_primes => k_is)
      (case c__law_primes => k_is)
      (case k__law_primes => k_is)
      (case a__law_due => k_is)
      (case l__law_due => k_is)
      (case c__law_due => k_is)
      (case k__law_due => k_is)
      (case a_zeros_of => k_is)
      (case l_zeros_of => k_is)
      (case c_zeros_of => k_is)
      (case k_zeros_of => k_is)
      (case a_zeros => k_is)
      (case l_zeros => k_is)
      (case c_zeros => k_is)
      (case k_zeros => k_is)
      (case a_law => k_is)
      (case l_law => k_is)
      (case c_law => k_is)
      (case k_law => k_is)
      (case z_abs => k_is)
      (case z_int => k_is)
      (case z_len => k_is)
      (case z_min => k_is)
      (case z_range => k_is)
      (case z_repr => k_is)
      (case q_DIGITS => k_is)
      (case q_LEAST_BASE => k_is)
      (case q_MOST_BASE => k_is)
      (case q_MOST_NUMBER => k_is)
      (case q_MOST_PRODUCT => k_is)
      (case q_MOST_ZEROS => k_is)
    subst e
    exact ⟨T.d_law, hb, fun base _ _ => LW.ok_law T⟩
