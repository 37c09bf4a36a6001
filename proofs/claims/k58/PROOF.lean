import PyProof.Rows.All
import Wide.All
import OpenK.AllK
import Wide.FinOn
import HandS.ForMost
import HandS.Wide
import HandS.Star
import HandS.Style
import HandS.SortInts
import HandS.Deep
import HandS.Gcd
import PyProof.ReprRoads
import HandS.Ends
import HandS.Replace
import HandS.Codes
import KE.GoesMore
import HandS.TryOnly
import HandS.TupSets
import PyProof.Rows.StrRev
import HandS.StrMore
import HandS.Flow
import HandS.SetFor
import HandS.Strs
import PySem.Challenge.RW_reckonedbyhand_k58_whole_products_by_shi
import PyProof.ReprBulk
set_option Elab.async false
set_option linter.all false
set_option maxRecDepth 100000
/-! PL1: the pure layer: plain data over the heap, ownership modes, judgements. -/
namespace PL
open PySem PySem.Spec L2

abbrev Ad := Addr → Prop
def un (S T : Ad) : Ad := fun a => S a ∨ T a
def wi (S : Ad) (p : Addr) : Ad := fun a => S a ∨ a = p
def no : Ad := fun _ => False

/-! ### data over the heap; lists, tuples, dicts that are tracked stand outside T -/
def KLs (K : PySem.W.Frag) (a : Addr) (xs : List V) : Prop :=
  ∃ (o : Obj) (its : Array Value) (n : Nat), K.lookup a = some o ∧ o.cls = .type "list" ∧ o.dict = none ∧ o.data = .seq its n ∧ its.size ≤ sizeLine ∧ Vals xs its.toList
def KTp (K : PySem.W.Frag) (a : Addr) (xs : List V) : Prop :=
  ∃ (o : Obj) (its : Array Value) (n : Nat), K.lookup a = some o ∧ o.cls = .type "tuple" ∧ o.data = .seq its n ∧ its.size ≤ sizeLine ∧ Vals xs its.toList
def LsA (K : PySem.W.Frag) (H : Hp) (T : Ad) (a : Addr) (xs : List V) : Prop := (Rd H a (.lst xs) ∧ ¬ T a) ∨ KLs K a xs
def TpA (K : PySem.W.Frag) (H : Hp) (T : Ad) (a : Addr) (xs : List V) : Prop := (Rd H a (.tup xs) ∧ ¬ T a) ∨ KTp K a xs
theorem LsA.sq {K : PySem.W.Frag} {H : Hp} {T : Ad} {a : Addr} {xs : List V} (h : LsA K H T a xs) : SqL K H a xs := h.imp (·.1) id
theorem TpA.sq {K : PySem.W.Frag} {H : Hp} {T : Ad} {a : Addr} {xs : List V} (h : TpA K H T a xs) : SqT K H a xs := h.imp (·.1) id

def keyD : PyData → Option Key
  | .int i => some (.inl i)
  | .str x => some (.inr x)
  | _ => none

mutual
def Rp (K : PySem.W.Frag) (H : Hp) (T : Ad) : PyData → V → Prop
  | .none, v => v = .non
  | .bool b, v => v = .bl b
  | .int i, v => v = .int i
  | .str x, v => v = .str x
  | .list ds, v => ∃ a xs, v = .ref a ∧ LsA K H T a xs ∧ RpA K H T ds xs
  | .tuple ds, v => ∃ a xs, v = .ref a ∧ TpA K H T a xs ∧ RpA K H T ds xs
  | .dict kvs, v => ∃ a es, v = .ref a ∧ (Rd H a (.dK es) ∧ ¬ T a) ∧ RpK K H T kvs es
def RpA (K : PySem.W.Frag) (H : Hp) (T : Ad) : List PyData → List V → Prop
  | [], xs => xs = []
  | d :: ds, xs => ∃ v vs, xs = v :: vs ∧ Rp K H T d v ∧ RpA K H T ds vs
def RpK (K : PySem.W.Frag) (H : Hp) (T : Ad) : List (PyData × PyData) → List (Key × V) → Prop
  | [], es => es = []
  | (k, d) :: ds, es => ∃ i v vs, es = (i, v) :: vs ∧ keyD k = some i ∧ Rp K H T d v ∧ RpK K H T ds vs
end

/-- from (H, T) to (H', T'): what is tracked outside T stands, and outside T' -/
def Mv (T : Ad) (H : Hp) (T' : Ad) (H' : Hp) : Prop := ∀ a o, H a = some o → ¬ T a → H' a = some o ∧ ¬ T' a
theorem Mv.refl {T : Ad} {H : Hp} : Mv T H T H := fun _ _ h n => ⟨h, n⟩
theorem Mv.trans {T T' T'' : Ad} {H H' H'' : Hp} (x : Mv T H T' H') (y : Mv T' H' T'' H'') : Mv T H T'' H'' := fun a o h n =>
  let ⟨h1, n1⟩ := x a o h n
  y a o h1 n1
theorem Mv.same {T : Ad} {H H' : Hp} (s : Same H H') : Mv T H T H' := fun a o h n => ⟨s a o h, n⟩
theorem Mv.less {T T' : Ad} {H : Hp} (s : ∀ a, T' a → T a) : Mv T H T' H := fun a o h n => ⟨h, fun z => n (s a z)⟩
theorem Mv.un {T T' U : Ad} {H H' : Hp} (x : Mv T H T' H') : Mv (un T U) H (PL.un T' U) H' := fun a o h n =>
  let ⟨h1, n1⟩ := x a o h fun z => n (.inl z)
  ⟨h1, fun z => z.elim n1 fun z => n (.inr z)⟩

section
variable {K : PySem.W.Frag} {H H' : Hp} {T T' : Ad} {a : Addr} {xs : List V} {u : HO}
theorem rd_mv (m : Mv T H T' H') (h : Rd H a u ∧ ¬ T a) : Rd H' a u ∧ ¬ T' a := by
  obtain ⟨h | ⟨o, h⟩, n⟩ := h
  · obtain ⟨h1, n1⟩ := m _ _ h n
    exact ⟨.inl h1, n1⟩
  · obtain ⟨h1, n1⟩ := m _ _ h n
    exact ⟨.inr ⟨o, h1⟩, n1⟩
theorem LsA.mv (m : Mv T H T' H') (h : LsA K H T a xs) : LsA K H' T' a xs := h.imp (rd_mv m) id
theorem TpA.mv (m : Mv T H T' H') (h : TpA K H T a xs) : TpA K H' T' a xs := h.imp (rd_mv m) id
mutual
theorem Rp.mv (m : Mv T H T' H') : ∀ (d : PyData) (v : V), Rp K H T d v → Rp K H' T' d v
  | .none, v, h => h
  | .bool _, v, h => h
  | .int _, v, h => h
  | .str _, v, h => h
  | .list ds, v, h => by
    obtain ⟨a, xs, e, h1, h2⟩ := h
    exact ⟨a, xs, e, h1.mv m, RpA.mv m ds xs h2⟩
  | .tuple ds, v, h => by
    obtain ⟨a, xs, e, h1, h2⟩ := h
    exact ⟨a, xs, e, h1.mv m, RpA.mv m ds xs h2⟩
  | .dict kvs, v, h => by
    obtain ⟨a, xs, e, h1, h2⟩ := h
    exact ⟨a, xs, e, rd_mv m h1, RpK.mv m kvs xs h2⟩
theorem RpA.mv (m : Mv T H T' H') : ∀ (ds : List PyData) (xs : List V), RpA K H T ds xs → RpA K H' T' ds xs
  | [], xs, h => h
  | d :: ds, xs, h => by
    obtain ⟨v, vs, e, h1, h2⟩ := h
    exact ⟨v, vs, e, Rp.mv m d v h1, RpA.mv m ds vs h2⟩
theorem RpK.mv (m : Mv T H T' H') : ∀ (ds : List (PyData × PyData)) (xs : List (Key × V)), RpK K H T ds xs → RpK K H' T' ds xs
  | [], xs, h => h
  | (k, d) :: ds, xs, h => by
    obtain ⟨i, v, vs, e, hk, h1, h2⟩ := h
    exact ⟨i, v, vs, e, hk, Rp.mv m d v h1, RpK.mv m ds vs h2⟩
end
theorem RpA.length : ∀ {ds : List PyData} {xs : List V}, RpA K H T ds xs → xs.length = ds.length
  | [], xs, h => by have e : xs = [] := h; rw [e]; rfl
  | d :: ds, xs, h => by
    obtain ⟨v, vs, rfl, h1, h2⟩ := h
    rw [List.length_cons, List.length_cons, RpA.length h2]
theorem RpA.append : ∀ {ds es : List PyData} {xs ys : List V}, RpA K H T ds xs → RpA K H T es ys → RpA K H T (ds ++ es) (xs ++ ys)
  | [], es, xs, ys, h, g => by have e : xs = [] := h; subst e; exact g
  | d :: ds, es, xs, ys, h, g => by
    obtain ⟨v, vs, rfl, h1, h2⟩ := h
    exact ⟨v, vs ++ ys, rfl, h1, RpA.append h2 g⟩
theorem RpA.one {d : PyData} {v : V} (h : Rp K H T d v) : RpA K H T [d] [v] := ⟨v, [], rfl, h, rfl⟩
theorem RpA.get : ∀ {ds : List PyData} {xs : List V} {i : Nat} {d : PyData}, RpA K H T ds xs → ds[i]? = some d → ∃ v, xs[i]? = some v ∧ Rp K H T d v
  | [], xs, i, d, h, e => by simp at e
  | d' :: ds, xs, 0, d, h, e => by
    obtain ⟨v, vs, rfl, h1, h2⟩ := h
    have e : d' = d := Option.some.inj e
    subst e
    exact ⟨v, rfl, h1⟩
  | d' :: ds, xs, i + 1, d, h, e => by
    obtain ⟨v, vs, rfl, h1, h2⟩ := h
    exact RpA.get (i := i) h2 e
theorem RpA.take : ∀ {ds : List PyData} {xs : List V} (n : Nat), RpA K H T ds xs → RpA K H T (ds.take n) (xs.take n)
  | [], xs, n, h => by have e : xs = [] := h; subst e; simp; rfl
  | d :: ds, xs, 0, h => by simp; rfl
  | d :: ds, xs, n + 1, h => by
    obtain ⟨v, vs, rfl, h1, h2⟩ := h
    exact ⟨v, vs.take n, rfl, h1, RpA.take n h2⟩
theorem RpA.drop : ∀ {ds : List PyData} {xs : List V} (n : Nat), RpA K H T ds xs → RpA K H T (ds.drop n) (xs.drop n)
  | [], xs, n, h => by have e : xs = [] := h; subst e; simp; rfl
  | d :: ds, xs, 0, h => by simpa using h
  | d :: ds, xs, n + 1, h => by
    obtain ⟨v, vs, rfl, h1, h2⟩ := h
    simpa using RpA.drop n h2
theorem RpA.rev : ∀ {ds : List PyData} {xs : List V}, RpA K H T ds xs → RpA K H T ds.reverse xs.reverse
  | [], xs, h => by have e : xs = [] := h; subst e; simp; rfl
  | d :: ds, xs, h => by
    obtain ⟨v, vs, rfl, h1, h2⟩ := h
    rw [List.reverse_cons, List.reverse_cons]
    exact (RpA.rev h2).append (.one h1)
theorem RpA.set : ∀ {ds : List PyData} {xs : List V} (i : Nat) {d : PyData} {v : V}, RpA K H T ds xs → Rp K H T d v → RpA K H T (ds.set i d) (xs.set i v)
  | [], xs, i, d, v, h, g => by have e : xs = [] := h; subst e; simp; rfl
  | d' :: ds, xs, 0, d, v, h, g => by
    obtain ⟨v', vs, rfl, h1, h2⟩ := h
    exact ⟨v, vs, rfl, g, h2⟩
  | d' :: ds, xs, i + 1, d, v, h, g => by
    obtain ⟨v', vs, rfl, h1, h2⟩ := h
    exact ⟨v', vs.set i v, rfl, h1, RpA.set i h2 g⟩
mutual
theorem Rp.dp : ∀ (d : PyData) (v : V), Rp K H T d v → (∀ kvs, d ≠ .dict kvs) → PyData.hasDict d = false → Dp K H v d
  | .none, v, h, _, _ => by have e : v = .non := h; rw [e]; exact .non
  | .bool b, v, h, _, _ => by have e : v = .bl b := h; rw [e]; exact .bl b
  | .int i, v, h, _, _ => by have e : v = .int i := h; rw [e]; exact .int i
  | .str i, v, h, _, _ => by have e : v = .str i := h; rw [e]; exact .str i
  | .list ds, v, h, _, n => by
    obtain ⟨a, xs, rfl, h1, h2⟩ := h
    exact .lst h1.sq (RpA.dp ds xs h2 (by simpa [PyData.hasDict] using n))
  | .tuple ds, v, h, _, n => by
    obtain ⟨a, xs, rfl, h1, h2⟩ := h
    exact .tup h1.sq (RpA.dp ds xs h2 (by simpa [PyData.hasDict] using n))
  | .dict kvs, v, h, n, _ => absurd rfl (n kvs)
theorem RpA.dp : ∀ (ds : List PyData) (xs : List V), RpA K H T ds xs → PyData.hasDictAll ds = false → DpAll K H xs ds
  | [], xs, h, _ => by have e : xs = [] := h; subst e; exact .nil
  | d :: ds, xs, h, n => by
    obtain ⟨v, vs, rfl, h1, h2⟩ := h
    have n' : d.hasDict = false ∧ PyData.hasDictAll ds = false := by simpa [PyData.hasDictAll] using n
    refine .cons (Rp.dp d v h1 ?_ n'.1) (RpA.dp ds vs h2 n'.2)
    rintro kvs rfl
    simp [PyData.hasDict] at n'
end
end

/-! ### the kinds of a value: a shared, b borrowed (its top may be owned), f fresh -/
inductive Kd | a | b | f
def Rb (K : PySem.W.Frag) (H : Hp) (T : Ad) (d : PyData) (v : V) : Prop :=
  Rp K H T d v ∨ (∃ ds a xs, d = .list ds ∧ v = .ref a ∧ Rd H a (.lst xs) ∧ RpA K H T ds xs) ∨ ∃ kvs a es, d = .dict kvs ∧ v = .ref a ∧ Rd H a (.dK es) ∧ RpK K H T kvs es
def Fr (K : PySem.W.Frag) (H H' : Hp) (T : Ad) (d : PyData) (v : V) : Prop :=
  ∃ p, v = .ref p ∧ H p = none ∧ ((∃ ds xs, d = .list ds ∧ H' p = some (.lst xs) ∧ RpA K H' (wi T p) ds xs) ∨ ∃ kvs es, d = .dict kvs ∧ H' p = some (.dK es) ∧ RpK K H' (wi T p) kvs es)
def RK : Kd → PySem.W.Frag → Hp → Hp → Ad → PyData → V → Prop
  | .a, K, _, H', T, d, v => Rp K H' T d v
  | .b, K, _, H', T, d, v => Rb K H' T d v
  | .f, K, H, H', T, d, v => Fr K H H' T d v
section
variable {K : PySem.W.Frag} {H H0 H' H'' : Hp} {T T' : Ad} {d : PyData} {v : V}
theorem Rb.mv (m : Mv T H T H') (h : Rb K H T d v) (s : Same H H') : Rb K H' T d v := by
  rcases h with h | ⟨ds, a, xs, rfl, rfl, h1, h2⟩ | ⟨ds, a, xs, rfl, rfl, h1, h2⟩
  · exact .inl (h.mv m)
  · refine .inr (.inl ⟨ds, a, xs, rfl, rfl, ?_, h2.mv m⟩)
    rcases h1 with h1 | ⟨o, h1⟩
    · exact .inl (s _ _ h1)
    · exact .inr ⟨o, s _ _ h1⟩
  · refine .inr (.inr ⟨ds, a, xs, rfl, rfl, ?_, h2.mv m⟩)
    rcases h1 with h1 | ⟨o, h1⟩
    · exact .inl (s _ _ h1)
    · exact .inr ⟨o, s _ _ h1⟩
theorem Fr.rp (h : Fr K H H' T d v) (hT : ∀ a, T a → H a ≠ none) : Rp K H' T d v := by
  obtain ⟨p, rfl, hp, ⟨ds, xs, rfl, h1, h2⟩ | ⟨ds, xs, rfl, h1, h2⟩⟩ := h
  · exact ⟨p, xs, rfl, .inl ⟨.inl h1, fun z => hT p z hp⟩, h2.mv (.less fun a z => .inl z)⟩
  · exact ⟨p, xs, rfl, ⟨.inl h1, fun z => hT p z hp⟩, h2.mv (.less fun a z => .inl z)⟩
theorem Fr.back (h : Fr K H H' T d v) (s : Same H0 H) : Fr K H0 H' T d v := by
  obtain ⟨p, rfl, hp, r⟩ := h
  exact ⟨p, rfl, s.free hp, r⟩
theorem RK.back {k : Kd} (h : RK k K H H' T d v) (s : Same H0 H) : RK k K H0 H' T d v := by
  cases k with
  | a => exact h
  | b => exact h
  | f => exact Fr.back h s
theorem RK.toB {k : Kd} (h : RK k K H H' T d v) (hT : ∀ a, T a → H a ≠ none) : Rb K H' T d v := by
  cases k with
  | a => exact .inl h
  | b => exact h
  | f => exact .inl (Fr.rp h hT)
end

/-! ### slots -/
inductive Mo | a | b | o
abbrev Sl := List (Option (Mo × PyData))
def Ow (K : PySem.W.Frag) (H : Hp) (T : Ad) (d : PyData) (a : Addr) : Prop :=
  (∃ ds xs, d = .list ds ∧ H a = some (.lst xs) ∧ RpA K H T ds xs) ∨ ∃ kvs es, d = .dict kvs ∧ H a = some (.dK es) ∧ RpK K H T kvs es
/-- borrowed: what a caller owns may be its top, what this def owns not -/
def Rbs (K : PySem.W.Frag) (H : Hp) (S T : Ad) (d : PyData) (v : V) : Prop :=
  Rp K H T d v ∨ (∃ ds a xs, d = .list ds ∧ v = .ref a ∧ (Rd H a (.lst xs) ∧ ¬ S a) ∧ RpA K H T ds xs) ∨ ∃ kvs a es, d = .dict kvs ∧ v = .ref a ∧ (Rd H a (.dK es) ∧ ¬ S a) ∧ RpK K H T kvs es
theorem Rbs.rb {K : PySem.W.Frag} {H : Hp} {S T : Ad} {d : PyData} {v : V} (h : Rbs K H S T d v) : Rb K H T d v :=
  h.imp id (Or.imp (fun ⟨ds, a, xs, e1, e2, e3, e4⟩ => ⟨ds, a, xs, e1, e2, e3.1, e4⟩) fun ⟨ds, a, xs, e1, e2, e3, e4⟩ => ⟨ds, a, xs, e1, e2, e3.1, e4⟩)
theorem Rbs.mv {K : PySem.W.Frag} {H H' : Hp} {S S' S0 : Ad} {d : PyData} {v : V} (m : Mv S H S' H') (h : Rbs K H S (un S S0) d v) : Rbs K H' S' (un S' S0) d v := by
  rcases h with h | ⟨ds, a, xs, rfl, rfl, h1, h2⟩ | ⟨ds, a, xs, rfl, rfl, h1, h2⟩
  · exact .inl (Rp.mv m.un _ _ h)
  · exact .inr (.inl ⟨ds, a, xs, rfl, rfl, rd_mv m h1, h2.mv m.un⟩)
  · exact .inr (.inr ⟨ds, a, xs, rfl, rfl, rd_mv m h1, h2.mv m.un⟩)
def SlV (K : PySem.W.Frag) (S0 S : Ad) (H : Hp) : Mo → PyData → V → Prop
  | .a, d, v => Rp K H (un S S0) d v
  | .b, d, v => Rbs K H S (un S S0) d v
  | .o, d, v => ∃ a, v = .ref a ∧ S a ∧ Ow K H (un S S0) d a
/-- the variables as told by sl; S0: what the callers may change, S: the lists that this def owns -/
structure EnvS (K : PySem.W.Frag) (S0 S : Ad) (H : Hp) (sl : Sl) (σ : St) : Prop where
  len : sl.length = σ.length
  dS : ∀ a, S a → H a ≠ none
  d0 : ∀ a, S0 a → H a ≠ none
  ap : ∀ a, S a → ¬ S0 a
  at_ : ∀ (i : Nat) (m : Mo) (d : PyData), sl[i]? = some (some (m, d)) → ∃ v, σ[i]? = some (some v) ∧ SlV K S0 S H m d v
  one : ∀ (i j : Nat) (d e : PyData) (v : V), i ≠ j → sl[i]? = some (some (.o, d)) → sl[j]? = some (some (.o, e)) → σ[i]? = some (some v) → σ[j]? ≠ some (some v)
section
variable {K : PySem.W.Frag} {H H0 H' H'' : Hp} {S0 S S' : Ad} {d : PyData} {v : V} {sl : Sl} {σ : St}
theorem EnvS.dT (E : EnvS K S0 S H sl σ) : ∀ a, un S S0 a → H a ≠ none := fun a h => h.elim (E.dS a) (E.d0 a)
theorem Ow.mv {T : Ad} {a : Addr} (s : Same H H') (h : Ow K H T d a) : Ow K H' T d a := by
  rcases h with ⟨ds, xs, rfl, h1, h2⟩ | ⟨ds, xs, rfl, h1, h2⟩
  · exact .inl ⟨ds, xs, rfl, s _ _ h1, h2.mv (.same s)⟩
  · exact .inr ⟨ds, xs, rfl, s _ _ h1, h2.mv (.same s)⟩
theorem SlV.same {m : Mo} (s : Same H H') (h : SlV K S0 S H m d v) : SlV K S0 S H' m d v := by
  cases m with
  | a => exact Rp.mv (.same s) d v h
  | b => exact Rbs.mv (.same s) h
  | o =>
    obtain ⟨a, e, h1, h2⟩ := h
    exact ⟨a, e, h1, h2.mv s⟩
theorem nn_same (s : Same H H') {a : Addr} (h : H a ≠ none) : H' a ≠ none := by
  cases e : H a with
  | none => exact absurd e h
  | some o => rw [s a o e]; simp
theorem EnvS.same (E : EnvS K S0 S H sl σ) (s : Same H H') : EnvS K S0 S H' sl σ where
  len := E.len
  dS := fun a h => nn_same s (E.dS a h)
  d0 := fun a h => nn_same s (E.d0 a h)
  ap := E.ap
  at_ := fun i m d h => by
    obtain ⟨v, h1, h2⟩ := E.at_ i m d h
    exact ⟨v, h1, h2.same s⟩
  one := E.one
end

/-! ### typed values -/
class Enc (τ : Type) where
  enc : τ → PyData
open Enc (enc)
instance : Enc Int := ⟨.int⟩
instance : Enc Bool := ⟨.bool⟩
instance : Enc Str := ⟨.str⟩
instance : Enc Unit := ⟨fun _ => .none⟩
instance {τ : Type} [Enc τ] : Enc (List τ) := ⟨fun xs => .list (xs.map enc)⟩
instance {τ : Type} [Enc τ] : Enc (Option τ) := ⟨fun x => match x with | none => .none | some t => enc t⟩
structure T2 (α β : Type) where
  mk ::
  a : α
  b : β
  deriving DecidableEq
structure T3 (α β γ : Type) where
  mk ::
  a : α
  b : β
  c : γ
  deriving DecidableEq
structure T4 (α β γ δ : Type) where
  mk ::
  a : α
  b : β
  c : γ
  d : δ
  deriving DecidableEq
instance {α β : Type} [Enc α] [Enc β] : Enc (T2 α β) := ⟨fun t => .tuple [enc t.a, enc t.b]⟩
instance {α β γ : Type} [Enc α] [Enc β] [Enc γ] : Enc (T3 α β γ) := ⟨fun t => .tuple [enc t.a, enc t.b, enc t.c]⟩
instance {α β γ δ : Type} [Enc α] [Enc β] [Enc γ] [Enc δ] : Enc (T4 α β γ δ) := ⟨fun t => .tuple [enc t.a, enc t.b, enc t.c, enc t.d]⟩

/-! ### the judgements -/
variable {Γ Γ' ρ τ α β : Type}
/-- an expression's reading -/
def tD [Enc τ] (K : PySem.W.Frag) (sl : Γ → Sl) (k : Kd) (f : Γ → Option τ) : TE := fun σ H Q =>
  ∃ (g : Γ) (S0 S : Ad) (t : τ), EnvS K S0 S H (sl g) σ ∧ f g = some t ∧ ∀ v H', Same H H' → RK k K H H' (un S S0) (enc t) v → Q v H'
def PV [Enc τ] (X : Cx) (sl : Γ → Sl) (k : Kd) (e : Expr) (f : Γ → Option τ) : Prop := PE X e (tD X.K sl k f)
/-- a test's -/
def tB (K : PySem.W.Frag) (sl : Γ → Sl) (f : Γ → Option Bool) : TT := fun σ H Q =>
  ∃ (g : Γ) (S0 S : Ad) (t : Bool), EnvS K S0 S H (sl g) σ ∧ f g = some t ∧ ∀ H', Same H H' → Q t H'
def PB (X : Cx) (sl : Γ → Sl) (e : Expr) (f : Γ → Option Bool) : Prop := PT X e (tB X.K sl f)
def PBw (X : Cx) (sl : Γ → Sl) (e : Expr) (f : Γ → Option Bool) : Prop := PW X e (tB X.K sl f)

theorem PE.imp {X : Cx} {e : Expr} {t t' : TE} (h : PE X e t) (i : ∀ σ H Q, t' σ H Q → t σ H Q) : PE X e t' := ⟨fun pins s σ H Q I q => h.run pins s σ H Q I (i σ H Q q)⟩
theorem PT.imp {X : Cx} {e : Expr} {t t' : TT} (h : PT X e t) (i : ∀ σ H Q, t' σ H Q → t σ H Q) : PT X e t' := ⟨fun pins s σ H Q I q => h.run pins s σ H Q I (i σ H Q q)⟩
theorem PW.imp {X : Cx} {e : Expr} {t t' : TT} (h : PW X e t) (i : ∀ σ H Q, t' σ H Q → t σ H Q) : PW X e t' := ⟨fun wh pins s σ H Q I q => h.run wh pins s σ H Q I (i σ H Q q)⟩
theorem PS.imp {X : Cx} {e : Stmt} {t t' : TS} (h : PS X e t) (i : ∀ D σ H, t' D σ H → t D σ H) : PS X e t' := ⟨fun pins s σ H Q I q => h.run pins s σ H Q I (i Q σ H q)⟩
theorem PSs.imp {X : Cx} {e : List Stmt} {t t' : TS} (h : PSs X e t) (i : ∀ D σ H, t' D σ H → t D σ H) : PSs X e t' := ⟨fun pins s σ H Q I q => h.run pins s σ H Q I (i Q σ H q)⟩
theorem PI.imp {X : Cx} {tg e : Expr} {t t' : TI} (h : PI X tg e t) (i : ∀ σ H Q, t' σ H Q → t σ H Q) : PI X tg e t' := ⟨fun pins s σ H Q I q => h.run pins s σ H Q I (i σ H Q q)⟩
theorem PA.imp {X : Cx} {e : List Expr} {t t' : TA} (h : PA X e t) (i : ∀ σ H Q, t' σ H Q → t σ H Q) : PA X e t' := ⟨fun pos pins s σ H Q I q => h.run pos pins s σ H Q I (i σ H Q q)⟩
theorem PO.imp {X : Cx} {e : Option Expr} {t t' : TO} (h : PO X e t) (i : ∀ σ H Q, t' σ H Q → t σ H Q) : PO X e t' := ⟨fun pins s σ H Q I q => h.run pins s σ H Q I (i σ H Q q)⟩
theorem PTs.imp {X : Cx} {e : List Expr} {t t' : TT} (h : PTs X e t) (i : ∀ σ H Q, t' σ H Q → t σ H Q) : PTs X e t' := ⟨fun pins s σ H Q I q => h.run pins s σ H Q I (i σ H Q q)⟩

end PL

/-! PL2: expressions. -/
namespace PL
open PySem PySem.Spec L2
open Enc (enc)

/-- texts by their signs -/
structure Tx where
  mk ::
  cs : List Nat
  deriving DecidableEq
instance : Enc Tx := ⟨fun t => .str ⟨t.cs.toArray⟩⟩

section
variable {K : PySem.W.Frag} {H : Hp} {T : Ad} {v : V}
theorem rb_int {i : Int} (h : Rb K H T (.int i) v) : v = .int i := by
  rcases h with h | ⟨_, _, _, e, _⟩ | ⟨_, _, _, e, _⟩
  · exact h
  · cases e
  · cases e
theorem rb_bool {i : Bool} (h : Rb K H T (.bool i) v) : v = .bl i := by
  rcases h with h | ⟨_, _, _, e, _⟩ | ⟨_, _, _, e, _⟩
  · exact h
  · cases e
  · cases e
theorem rb_str {i : Str} (h : Rb K H T (.str i) v) : v = .str i := by
  rcases h with h | ⟨_, _, _, e, _⟩ | ⟨_, _, _, e, _⟩
  · exact h
  · cases e
  · cases e
theorem rb_none (h : Rb K H T .none v) : v = .non := by
  rcases h with h | ⟨_, _, _, e, _⟩ | ⟨_, _, _, e, _⟩
  · exact h
  · cases e
  · cases e
theorem rb_tup {ds : List PyData} (h : Rb K H T (.tuple ds) v) : ∃ a xs, v = .ref a ∧ SqT K H a xs ∧ RpA K H T ds xs := by
  rcases h with ⟨a, xs, e, h1, h2⟩ | ⟨_, _, _, e, _⟩ | ⟨_, _, _, e, _⟩
  · exact ⟨a, xs, e, h1.sq, h2⟩
  · cases e
  · cases e
theorem rb_list {ds : List PyData} (h : Rb K H T (.list ds) v) : ∃ a xs, v = .ref a ∧ SqL K H a xs ∧ RpA K H T ds xs := by
  rcases h with ⟨a, xs, e, h1, h2⟩ | ⟨_, a, xs, e, rfl, h1, h2⟩ | ⟨_, _, _, e, _⟩
  · exact ⟨a, xs, e, h1.sq, h2⟩
  · cases e
    exact ⟨a, xs, rfl, .inl h1, h2⟩
  · cases e
theorem rpa_map {τ : Type} (g : τ → V) {e : τ → PyData} (h : ∀ t w, Rp K H T (e t) w → w = g t) : ∀ {xs : List τ} {vs : List V}, RpA K H T (xs.map e) vs → vs = xs.map g
  | [], vs, q => q
  | x :: xs, vs, q => by
    obtain ⟨v, ws, rfl, h1, h2⟩ := q
    rw [List.map_cons, h x v h1, rpa_map g h h2]
theorem rpa_int {xs : List Int} {vs : List V} (h : RpA K H T (xs.map enc) vs) : vs = xs.map V.int := rpa_map (e := fun i : Int => enc i) V.int (fun t w q => show w = V.int t from q) h
theorem rpa_bool {xs : List Bool} {vs : List V} (h : RpA K H T (xs.map enc) vs) : vs = xs.map V.bl := rpa_map (e := fun i : Bool => enc i) V.bl (fun t w q => show w = V.bl t from q) h
theorem rpa_tx {xs : List Tx} {vs : List V} (h : RpA K H T (xs.map enc) vs) : vs = (xs.map fun t => (⟨t.cs.toArray⟩ : Str)).map V.str := by
  rw [List.map_map]
  exact rpa_map (e := fun i : Tx => enc i) (fun t => V.str ⟨t.cs.toArray⟩) (fun t w q => show w = V.str ⟨t.cs.toArray⟩ from q) h
end

variable {Γ Γ' ρ τ α β : Type} {X : Cx} {sl : Γ → Sl} {e a b c : Expr} {k k1 k2 k3 : Kd} {pos : Pos}

theorem bind2 {f : Option α} {g : Option β} {h : α → β → Option τ} {t : τ} (e : (f.bind fun x => g.bind fun y => h x y) = some t) : ∃ x y, f = some x ∧ g = some y ∧ h x y = some t := by
  cases f with
  | none => cases e
  | some x =>
    cases g with
    | none => cases e
    | some y => exact ⟨x, y, rfl, rfl, e⟩
theorem bind1 {f : Option α} {h : α → Option τ} {t : τ} (e : (f.bind fun x => h x) = some t) : ∃ x, f = some x ∧ h x = some t := by
  cases f with
  | none => cases e
  | some x => exact ⟨x, rfl, e⟩
/-! ### from kind to kind -/
theorem PV.ab [Enc τ] {f : Γ → Option τ} (h : PV X sl .a e f) : PV X sl .b e f := PE.imp h fun σ H Q ⟨g, S0, S, t, E, hf, q⟩ => ⟨g, S0, S, t, E, hf, fun v H' s r => q v H' s (.inl r)⟩
theorem PV.fa [Enc τ] {f : Γ → Option τ} (h : PV X sl .f e f) : PV X sl .a e f := PE.imp h fun σ H Q ⟨g, S0, S, t, E, hf, q⟩ => ⟨g, S0, S, t, E, hf, fun v H' s r => q v H' s (Fr.rp r E.dT)⟩
theorem PV.fb [Enc τ] {f : Γ → Option τ} (h : PV X sl .f e f) : PV X sl .b e f := h.fa.ab
/-- what is no list and no dict is never owned -/
class NoL (τ : Type) [Enc τ] : Prop where
  nl : ∀ (t : τ), (∀ ds, enc t ≠ .list ds) ∧ ∀ ds, enc t ≠ .dict ds
instance : NoL Int := ⟨fun _ => ⟨nofun, nofun⟩⟩
instance : NoL Bool := ⟨fun _ => ⟨nofun, nofun⟩⟩
instance : NoL Tx := ⟨fun _ => ⟨nofun, nofun⟩⟩
instance : NoL Unit := ⟨fun _ => ⟨nofun, nofun⟩⟩
instance {α β : Type} [Enc α] [Enc β] : NoL (T2 α β) := ⟨fun _ => ⟨nofun, nofun⟩⟩
instance {α β γ : Type} [Enc α] [Enc β] [Enc γ] : NoL (T3 α β γ) := ⟨fun _ => ⟨nofun, nofun⟩⟩
instance {α β γ δ : Type} [Enc α] [Enc β] [Enc γ] [Enc δ] : NoL (T4 α β γ δ) := ⟨fun _ => ⟨nofun, nofun⟩⟩
instance {α : Type} [Enc α] [NoL α] : NoL (Option α) := ⟨fun t => match t with
  | none => ⟨nofun, nofun⟩
  | some t => NoL.nl t⟩
theorem Rb.rp {K : PySem.W.Frag} {H : Hp} {T : Ad} {v : V} [Enc τ] [NoL τ] {t : τ} (h : Rb K H T (enc t) v) : Rp K H T (enc t) v := by
  rcases h with h | ⟨ds, _, _, e, _⟩ | ⟨ds, _, _, e, _⟩
  · exact h
  · exact absurd e ((NoL.nl t).1 ds)
  · exact absurd e ((NoL.nl t).2 ds)
theorem PV.ba [Enc τ] [NoL τ] {f : Γ → Option τ} (h : PV X sl .b e f) : PV X sl .a e f := PE.imp h fun σ H Q ⟨g, S0, S, t, E, hf, q⟩ => ⟨g, S0, S, t, E, hf, fun v H' s r => q v H' s (Rb.rp r)⟩
/-- what is known to be there -/
theorem PV.cast [Enc τ] {f : Γ → Option (Option τ)} (h : PV X sl k e f) : PV X sl k e (fun g => (f g).bind fun t => t) := PE.imp h fun σ H Q ⟨g, S0, S, t, E, hf, q⟩ => by
  obtain ⟨u, h1, hf⟩ := bind1 hf
  have hf : u = some t := hf
  subst hf
  exact ⟨g, S0, S, some t, E, h1, q⟩
theorem PV.opt [Enc τ] {f : Γ → Option τ} (h : PV X sl k e f) : PV X sl k e (fun g => (f g).bind fun t => some (some t)) := PE.imp h fun σ H Q ⟨g, S0, S, t, E, hf, q⟩ => by
  obtain ⟨u, h1, hf⟩ := bind1 hf
  have hf : some u = t := Option.some.inj hf
  subst hf
  exact ⟨g, S0, S, u, E, h1, q⟩
/-- another way to write the plain function -/
theorem PV.eq [Enc τ] {f f' : Γ → Option τ} (h : PV X sl k e f) (h' : f' = f) : PV X sl k e f' := h' ▸ h

/-! ### names, constants -/
theorem pv_var [Enc τ] {i : Nat} {x : Str} (p : Γ → τ) (h : ∀ g, (sl g)[i]? = some (some (.a, enc (p g)))) (hN : X.N[i]? = some x := by rfl)
    (hv : Vis X.env.scope x := by first | exact Or.inl rfl | exact Or.inr (Or.inl rfl) | exact Or.inr (Or.inr rfl)) (hd : (x == ("__debug__" : Str)) = false := by decide) (hcd : (x == ("__classdict__" : Str)) = false := by decide) :
    PV X sl .a (.Name x pos) (fun g => some (p g)) := PE.imp (pe_var (i := i) hN hv hd hcd) fun σ H Q ⟨g, S0, S, t, E, hf, q⟩ => by
  obtain ⟨v, h1, h2⟩ := E.at_ i _ _ (h g)
  cases hf
  exact ⟨v, h1, q v H (Same.refl H) h2⟩
theorem pv_varb [Enc τ] {i : Nat} {x : Str} (p : Γ → τ) (h : ∀ g, (sl g)[i]? = some (some (.b, enc (p g)))) (hN : X.N[i]? = some x := by rfl)
    (hv : Vis X.env.scope x := by first | exact Or.inl rfl | exact Or.inr (Or.inl rfl) | exact Or.inr (Or.inr rfl)) (hd : (x == ("__debug__" : Str)) = false := by decide) (hcd : (x == ("__classdict__" : Str)) = false := by decide) :
    PV X sl .b (.Name x pos) (fun g => some (p g)) := PE.imp (pe_var (i := i) hN hv hd hcd) fun σ H Q ⟨g, S0, S, t, E, hf, q⟩ => by
  obtain ⟨v, h1, h2⟩ := E.at_ i _ _ (h g)
  cases hf
  exact ⟨v, h1, q v H (Same.refl H) h2.rb⟩
theorem pv_varo [Enc τ] {i : Nat} {x : Str} (p : Γ → τ) (h : ∀ g, (sl g)[i]? = some (some (.o, enc (p g)))) (hN : X.N[i]? = some x := by rfl)
    (hv : Vis X.env.scope x := by first | exact Or.inl rfl | exact Or.inr (Or.inl rfl) | exact Or.inr (Or.inr rfl)) (hd : (x == ("__debug__" : Str)) = false := by decide) (hcd : (x == ("__classdict__" : Str)) = false := by decide) :
    PV X sl .b (.Name x pos) (fun g => some (p g)) := PE.imp (pe_var (i := i) hN hv hd hcd) fun σ H Q ⟨g, S0, S, t, E, hf, q⟩ => by
  obtain ⟨v, h1, a, e, h2, h3⟩ := E.at_ i _ _ (h g)
  cases hf
  refine ⟨v, h1, q v H (Same.refl H) ?_⟩
  rcases h3 with ⟨ds, xs, e1, e2, e3⟩ | ⟨ds, xs, e1, e2, e3⟩
  · exact .inr (.inl ⟨ds, a, xs, e1, e, .inl e2, e3⟩)
  · exact .inr (.inr ⟨ds, a, xs, e1, e, .inl e2, e3⟩)
theorem pv_c [Enc τ] {v : V} (t : τ) (he : PE X e (tC v)) (h : ∀ K H T, Rp K H T (enc t) v) : PV X sl .a e (fun _ => some t) := PE.imp he fun σ H Q ⟨g, S0, S, t', E, hf, q⟩ => by
  cases hf
  exact q v H (Same.refl H) (h _ _ _)
theorem pv_int {i : Int} {j} : PV X sl .a (.Constant (.int i) j pos) (fun _ => some i) := pv_c i pe_int fun _ _ _ => rfl
theorem pv_bool {i : Bool} {j} : PV X sl .a (.Constant (.bool i) j pos) (fun _ => some i) := pv_c i pe_bl fun _ _ _ => rfl
theorem pv_none {j} : PV X sl .a (.Constant .none j pos) (fun _ => some ()) := pv_c () pe_non fun _ _ _ => rfl
/-- None where something may be -/
theorem pv_noneO [Enc τ] {j} : PV X sl .a (.Constant .none j pos) (fun _ => some (none : Option τ)) := pv_c none pe_non fun _ _ _ => rfl
theorem pv_str {x : Str} {j} (l : List Nat) (h : x = ⟨l.toArray⟩ := by decide +kernel) : PV X sl .a (.Constant (.str x) j pos) (fun _ => some (⟨l⟩ : Tx)) := pv_c _ pe_str fun _ _ _ => by rw [h]; rfl
/-- a module's constant -/
theorem pv_gint {x : Str} {i : Int} {u : Value} (hg : Gl X x) (hm : X.mg x = some u) (r : RelV (.int i) u) (hd : (x == ("__debug__" : Str)) = false := by decide) : PV X sl .a (.Name x pos) (fun _ => some i) :=
  pv_c i (pe_glob hg hm r hd) fun _ _ _ => rfl
theorem pv_gstr {x y : Str} {u : Value} (l : List Nat) (hg : Gl X x) (hm : X.mg x = some u) (r : RelV (.str y) u) (h : y = ⟨l.toArray⟩ := by decide +kernel) (hd : (x == ("__debug__" : Str)) = false := by decide) : PV X sl .a (.Name x pos) (fun _ => some (⟨l⟩ : Tx)) :=
  pv_c _ (pe_glob hg hm r hd) fun _ _ _ => by rw [h]; rfl

/-! ### operations by values -/
/-- what a two-place rule asks, in plain words -/
def Ask2 [Enc α] [Enc β] [Enc τ] (K : PySem.W.Frag) (r : R2) (k : Kd) (g : α → β → Option τ) : Prop :=
  ∀ (T : Ad) (H : Hp) (x y : V) (u : α) (w : β) (t : τ) (Q : VK), (∀ a, T a → H a ≠ none) → Rb K H T (enc u) x → Rb K H T (enc w) y → g u w = some t → (∀ v H', Same H H' → RK k K H H' T (enc t) v → Q v H') → r x y H Q
def Ask1 [Enc α] [Enc τ] (K : PySem.W.Frag) (r : V → Hp → VK → Prop) (k : Kd) (g : α → Option τ) : Prop :=
  ∀ (T : Ad) (H : Hp) (x : V) (u : α) (t : τ) (Q : VK), (∀ a, T a → H a ≠ none) → Rb K H T (enc u) x → g u = some t → (∀ v H', Same H H' → RK k K H H' T (enc t) v → Q v H') → r x H Q
theorem pv_2 [Enc α] [Enc β] [Enc τ] {r : R2} {fa : Γ → Option α} {fb : Γ → Option β} {g : α → β → Option τ} (h : ∀ {ta tb : TE}, PE X a ta → PE X b tb → PE X e (tOp r ta tb)) (ask : Ask2 X.K r k g)
    (ha : PV X sl .b a fa) (hb : PV X sl .b b fb) : PV X sl k e (fun s => (fa s).bind fun x => (fb s).bind fun y => g x y) := PE.imp (h ha hb) fun σ H Q ⟨γ, S0, S, t, E, hf, q⟩ => by
  obtain ⟨u, w, h1, h2, h3⟩ := bind2 hf
  refine ⟨γ, S0, S, u, E, h1, fun x H1 s1 r1 => ⟨γ, S0, S, w, E.same s1, h2, fun y H2 s2 r2 => ?_⟩⟩
  have s12 := s1.trans s2
  exact ask (un S S0) H2 x y u w t Q (E.same s12).dT (Rb.mv (.same s2) r1 s2) r2 h3 fun v H' s3 r3 => q v H' (s12.trans s3) (r3.back s12)
theorem pv_1 [Enc α] [Enc τ] {r : V → Hp → VK → Prop} {fa : Γ → Option α} {g : α → Option τ} (h : ∀ {ta : TE}, PE X a ta → PE X e (tUn r ta)) (ask : Ask1 X.K r k g)
    (ha : PV X sl .b a fa) : PV X sl k e (fun s => (fa s).bind fun x => g x) := PE.imp (h ha) fun σ H Q ⟨γ, S0, S, t, E, hf, q⟩ => by
  obtain ⟨u, h1, h3⟩ := bind1 hf
  refine ⟨γ, S0, S, u, E, h1, fun x H1 s1 r1 => ?_⟩
  exact ask (un S S0) H1 x u t Q (E.same s1).dT r1 h3 fun v H' s3 r3 => q v H' (s1.trans s3) (r3.back s1)
/-- a call of a known function with one value, with two -/
theorem pv_c1 [Enc α] [Enc τ] {r : List V → Hp → VK → Prop} {fa : Γ → Option α} {g : α → Option τ} (h : ∀ {ta : TE}, PE X a ta → PE X e (tCB r (tCons ta tNil))) (ask : Ask1 X.K (fun x => r [x]) k g)
    (ha : PV X sl .b a fa) : PV X sl k e (fun s => (fa s).bind fun x => g x) := pv_1 (r := fun x => r [x]) (fun {ta} h' => h h') ask ha
theorem pv_c2 [Enc α] [Enc β] [Enc τ] {r : List V → Hp → VK → Prop} {fa : Γ → Option α} {fb : Γ → Option β} {g : α → β → Option τ} (h : ∀ {ta tb : TE}, PE X a ta → PE X b tb → PE X e (tCB r (tCons ta (tCons tb tNil)))) (ask : Ask2 X.K (fun x y => r [x, y]) k g)
    (ha : PV X sl .b a fa) (hb : PV X sl .b b fb) : PV X sl k e (fun s => (fa s).bind fun x => (fb s).bind fun y => g x y) := pv_2 (r := fun x y => r [x, y]) (fun {ta tb} h1 h2 => h h1 h2) ask ha hb

/-! ### ints -/
def iMod (x y : Int) : Option Int := if 0 < y then some (x % y) else none
def iDiv (x y : Int) : Option Int := if 0 < y ∧ y.natAbs.log2 < 9000 then some (x / y) else none
def iMul (x y : Int) : Option Int := if x.natAbs.log2 + y.natAbs.log2 < 1000000 then some (x * y) else none
def iPow (x y : Int) : Option Int := if 0 ≤ y ∧ y ≤ 1000000 ∧ x.natAbs < 2 ^ 64 then some (x ^ y.toNat) else none
theorem if_some {p : Prop} [Decidable p] {x t : τ} (h : (if p then some x else none) = some t) : p ∧ x = t := by
  by_cases hp : p
  · rw [if_pos hp] at h; exact ⟨hp, Option.some.inj h⟩
  · rw [if_neg hp] at h; cases h
theorem ask_rI {C : Int → Int → Prop} {f : Int → Int → V} [Enc τ] {g : Int → Int → Option τ} {K : PySem.W.Frag} (h : ∀ x y t, g x y = some t → C x y ∧ ∀ K H T, Rp K H T (enc t) (f x y)) : Ask2 K (rI C f) .a g := by
  intro T H x y u w t Q hT r1 r2 e q
  obtain ⟨hc, hr⟩ := h u w t e
  exact ⟨u, w, rb_int r1, rb_int r2, hc, q _ H (Same.refl H) (hr _ _ _)⟩
theorem ask_rI0 {f : Int → Int → V} [Enc τ] {g : Int → Int → Option τ} {K : PySem.W.Frag} (h : ∀ x y t, g x y = some t → ∀ K H T, Rp K H T (enc t) (f x y)) : Ask2 K (rI0 f) .a g := by
  intro T H x y u w t Q hT r1 r2 e q
  exact ⟨u, w, rb_int r1, rb_int r2, q _ H (Same.refl H) (h u w t e _ _ _)⟩
section
variable {fa fb fc : Γ → Option Int}
theorem pv_add (ha : PV X sl .b a fa) (hb : PV X sl .b b fb) : PV X sl .a (.BinOp a .Add b pos) (fun s => (fa s).bind fun x => (fb s).bind fun y => some (x + y)) :=
  pv_2 (pe_op op_add) (ask_rI0 fun x y t e K H T => by cases e; rfl) ha hb
theorem pv_sub (ha : PV X sl .b a fa) (hb : PV X sl .b b fb) : PV X sl .a (.BinOp a .Sub b pos) (fun s => (fa s).bind fun x => (fb s).bind fun y => some (x - y)) :=
  pv_2 (pe_op op_sub) (ask_rI0 fun x y t e K H T => by cases e; rfl) ha hb
theorem pv_mul (ha : PV X sl .b a fa) (hb : PV X sl .b b fb) : PV X sl .a (.BinOp a .Mult b pos) (fun s => (fa s).bind fun x => (fb s).bind fun y => iMul x y) :=
  pv_2 (pe_op op_mulW) (ask_rI fun x y t e => by obtain ⟨h1, rfl⟩ := if_some e; exact ⟨h1, fun _ _ _ => rfl⟩) ha hb
theorem pv_div (ha : PV X sl .b a fa) (hb : PV X sl .b b fb) : PV X sl .a (.BinOp a .FloorDiv b pos) (fun s => (fa s).bind fun x => (fb s).bind fun y => iDiv x y) :=
  pv_2 (pe_op op_fdivW) (ask_rI fun x y t e => by obtain ⟨h1, rfl⟩ := if_some e; exact ⟨h1, fun _ _ _ => rfl⟩) ha hb
theorem pv_mod (ha : PV X sl .b a fa) (hb : PV X sl .b b fb) : PV X sl .a (.BinOp a .Mod b pos) (fun s => (fa s).bind fun x => (fb s).bind fun y => iMod x y) :=
  pv_2 (pe_op op_mod) (ask_rI fun x y t e => by obtain ⟨h1, rfl⟩ := if_some e; exact ⟨h1, fun _ _ _ => rfl⟩) ha hb
theorem pv_pow (ha : PV X sl .b a fa) (hb : PV X sl .b b fb) : PV X sl .a (.BinOp a .Pow b pos) (fun s => (fa s).bind fun x => (fb s).bind fun y => iPow x y) :=
  pv_2 (pe_op op_pow) (ask_rI fun x y t e => by obtain ⟨h1, rfl⟩ := if_some e; exact ⟨h1, fun _ _ _ => rfl⟩) ha hb
theorem pv_neg (ha : PV X sl .b a fa) : PV X sl .a (.UnaryOp .USub a pos) (fun s => (fa s).bind fun x => some (-x)) :=
  pv_1 (pe_un un_neg) (fun T H x u t Q hT r e q => ⟨u, rb_int r, q _ H (Same.refl H) (by cases e; rfl)⟩) ha

/-! ### comparisons of ints -/
/-- a comparison's rule: values to a truth value -/
structure Cmp (X : Cx) (op : CmpOp) (α β : Type) [Enc α] [Enc β] (g : α → β → Option Bool) where
  r : R2
  rule : OpR X (compareOp op) r
  ask : Ask2 X.K r .a g
def c_lt : Cmp X .Lt Int Int (fun x y => some (decide (x < y))) := ⟨_, op_lt, ask_rI0 fun x y t e K H T => by cases e; rfl⟩
def c_le : Cmp X .LtE Int Int (fun x y => some (decide (x ≤ y))) := ⟨_, op_le, ask_rI0 fun x y t e K H T => by cases e; rfl⟩
def c_gt : Cmp X .Gt Int Int (fun x y => some (decide (x > y))) := ⟨_, op_gt, ask_rI0 fun x y t e K H T => by cases e; rfl⟩
def c_ge : Cmp X .GtE Int Int (fun x y => some (decide (x ≥ y))) := ⟨_, op_ge, ask_rI0 fun x y t e K H T => by cases e; rfl⟩
end
end PL

/-! PL3: comparisons, tests, data, lists. -/
namespace PL
open PySem PySem.Spec L2
open Enc (enc)

variable {Γ Γ' ρ τ α β γ' : Type} {X : Cx} {sl : Γ → Sl} {e a b c : Expr} {k k1 k2 k3 : Kd} {pos : Pos}
section
variable [Enc α] [Enc β] [Enc γ'] {op op' : CmpOp} {g : α → β → Option Bool} {g' : β → γ' → Option Bool} {fa : Γ → Option α} {fb : Γ → Option β} {fc : Γ → Option γ'}
theorem pv_cmp (C : Cmp X op α β g) (ha : PV X sl .b a fa) (hb : PV X sl .b b fb) (hm : behindInMarks op b = false := by first | exact nomark _ | with_unfolding_all rfl) : PV X sl .a (.Compare a [op] [b] pos) (fun s => (fa s).bind fun x => (fb s).bind fun y => g x y) :=
  pv_2 (fun h1 h2 => pe_cmpR C.rule h1 h2 hm) C.ask ha hb
/-- a value that is a truth value, as a test's reading -/
theorem tB_of {K : PySem.W.Frag} {f : Γ → Option Bool} {σ : L2.St} {H : Hp} {Q : Bool → Hp → Prop} (h : tB K sl f σ H Q) : tD K sl .a f σ H fun v H' => ∃ k, v = .bl k ∧ Q k H' := by
  obtain ⟨g, S0, S, t, E, hf, q⟩ := h
  exact ⟨g, S0, S, t, E, hf, fun v H' s r => ⟨t, r, q H' s⟩⟩
theorem pb_cmp (C : Cmp X op α β g) (ha : PV X sl .b a fa) (hb : PV X sl .b b fb) (hm : behindInMarks op b = false := by first | exact nomark _ | with_unfolding_all rfl) : PB X sl (.Compare a [op] [b] pos) (fun s => (fa s).bind fun x => (fb s).bind fun y => g x y) :=
  PT.imp (pt_cmpR C.rule ha hb hm) fun σ H Q h => by
    obtain ⟨γ, S0, S, t, E, hf, q⟩ := h
    obtain ⟨u, w, h1, h2, h3⟩ := bind2 hf
    refine ⟨γ, S0, S, u, E, h1, fun x H1 s1 r1 => ⟨γ, S0, S, w, E.same s1, h2, fun y H2 s2 r2 => ?_⟩⟩
    have s12 := s1.trans s2
    exact C.ask (un S S0) H2 x y u w t _ (E.same s12).dT (Rb.mv (.same s2) r1 s2) r2 h3 fun v H' s3 r3 => ⟨t, r3, q H' (s12.trans s3)⟩
theorem pv_val {f : Γ → Option Bool} (h : PV X sl .a e f) (he : ∀ whole, isTrue e X.env whole = (do let v ← whole; standAt e.pos; holding [v] (truthy v)) := by intro _; rfl) : PB X sl e f :=
  PT.imp (pt_val h he) fun σ H Q h => tB_of h
theorem pv_chain (C : Cmp X op α β g) (C' : Cmp X op' β γ' g') (ha : PV X sl .b a fa) (hb : PV X sl .b b fb) (hc : PV X sl .b c fc) (hm : lastMarks [op, op'] [b, c] = false := by with_unfolding_all rfl) :
    PV X sl .a (.Compare a [op, op'] [b, c] pos) (fun s => (fa s).bind fun x => (fb s).bind fun y => (g x y).bind fun t => if t = true then (fc s).bind fun z => g' y z else some false) :=
  PE.imp (pe_chain C.rule C'.rule ha hb hc hm) fun σ H Q h => by
    obtain ⟨γ, S0, S, t, E, hf, q⟩ := h
    obtain ⟨u, w, h1, h2, h3⟩ := bind2 hf
    obtain ⟨t1, h4, h5⟩ := bind1 h3
    refine ⟨γ, S0, S, u, E, h1, fun x H1 s1 r1 => ⟨γ, S0, S, w, E.same s1, h2, fun y H2 s2 r2 => ?_⟩⟩
    have s12 := s1.trans s2
    refine C.ask (un S S0) H2 x y u w t1 _ (E.same s12).dT (Rb.mv (.same s2) r1 s2) r2 h4 fun v H3 s3 r3 => ⟨t1, r3, ?_⟩
    have s13 := s12.trans s3
    cases t1 with
    | false =>
      cases h5
      exact q _ H3 s13 rfl
    | true =>
      obtain ⟨z, h6, h7⟩ := bind1 h5
      refine ⟨γ, S0, S, z, E.same s13, h6, fun z' H4 s4 r4 => ?_⟩
      have s14 := s13.trans s4
      exact C'.ask (un S S0) H4 y z' w z t Q (E.same s14).dT (Rb.mv (.same (s3.trans s4)) r2 (s3.trans s4)) r4 h7 fun v H5 s5 r5 => q v H5 (s14.trans s5) r5
theorem pb_chain (C : Cmp X op α β g) (C' : Cmp X op' β γ' g') (ha : PV X sl .b a fa) (hb : PV X sl .b b fb) (hc : PV X sl .b c fc) (hm : lastMarks [op, op'] [b, c] = false := by with_unfolding_all rfl) :
    PB X sl (.Compare a [op, op'] [b, c] pos) (fun s => (fa s).bind fun x => (fb s).bind fun y => (g x y).bind fun t => if t = true then (fc s).bind fun z => g' y z else some false) :=
  PT.imp (pt_chain C.rule C'.rule ha hb hc hm) fun σ H Q h => by
    obtain ⟨γ, S0, S, t, E, hf, q⟩ := h
    obtain ⟨u, w, h1, h2, h3⟩ := bind2 hf
    obtain ⟨t1, h4, h5⟩ := bind1 h3
    refine ⟨γ, S0, S, u, E, h1, fun x H1 s1 r1 => ⟨γ, S0, S, w, E.same s1, h2, fun y H2 s2 r2 => ?_⟩⟩
    have s12 := s1.trans s2
    refine C.ask (un S S0) H2 x y u w t1 _ (E.same s12).dT (Rb.mv (.same s2) r1 s2) r2 h4 fun v H3 s3 r3 => ⟨t1, r3, ?_⟩
    have s13 := s12.trans s3
    cases t1 with
    | false =>
      cases h5
      exact ⟨false, rfl, q H3 s13⟩
    | true =>
      obtain ⟨z, h6, h7⟩ := bind1 h5
      refine ⟨γ, S0, S, z, E.same s13, h6, fun z' H4 s4 r4 => ?_⟩
      have s14 := s13.trans s4
      exact C'.ask (un S S0) H4 y z' w z t _ (E.same s14).dT (Rb.mv (.same (s3.trans s4)) r2 (s3.trans s4)) r4 h7 fun v H5 s5 r5 => ⟨t, r5, q H5 (s14.trans s5)⟩
end

/-! ### and, or, not; if-expressions -/
section
variable {fa fb : Γ → Option Bool} {rest : List Expr}
theorem pb_not (ha : PB X sl a fa) : PB X sl (.UnaryOp .Not a pos) (fun s => (fa s).bind fun x => some (!x)) := PT.imp (pt_not ha) fun σ H Q ⟨γ, S0, S, t, E, hf, q⟩ => by
  obtain ⟨x, h1, h2⟩ := bind1 hf
  cases h2
  exact ⟨γ, S0, S, x, E, h1, fun H' s => q H' s⟩
theorem pb_and1 (ha : PB X sl a fa) : PBw X sl (.BoolOp .And [a] pos) fa := pw_and1 ha
theorem pb_or1 (ha : PB X sl a fa) : PBw X sl (.BoolOp .Or [a] pos) fa := pw_or1 ha
theorem pb_and (ha : PB X sl a fa) (hb : PBw X sl (.BoolOp .And (b :: rest) pos) fb) : PBw X sl (.BoolOp .And (a :: b :: rest) pos) (fun s => (fa s).bind fun x => if x = true then fb s else some false) :=
  PW.imp (pw_and ha hb) fun σ H Q ⟨γ, S0, S, t, E, hf, q⟩ => by
    obtain ⟨x, h1, h2⟩ := bind1 hf
    refine ⟨γ, S0, S, x, E, h1, fun H1 s1 => ?_⟩
    cases x with
    | false => cases h2; exact q H1 s1
    | true => exact ⟨γ, S0, S, t, E.same s1, h2, fun H2 s2 => q H2 (s1.trans s2)⟩
theorem pb_or (ha : PB X sl a fa) (hb : PBw X sl (.BoolOp .Or (b :: rest) pos) fb) : PBw X sl (.BoolOp .Or (a :: b :: rest) pos) (fun s => (fa s).bind fun x => if x = true then some true else fb s) :=
  PW.imp (pw_or ha hb) fun σ H Q ⟨γ, S0, S, t, E, hf, q⟩ => by
    obtain ⟨x, h1, h2⟩ := bind1 hf
    refine ⟨γ, S0, S, x, E, h1, fun H1 s1 => ?_⟩
    cases x with
    | true => cases h2; exact q H1 s1
    | false => exact ⟨γ, S0, S, t, E.same s1, h2, fun H2 s2 => q H2 (s1.trans s2)⟩
theorem PBw.pb {f : Γ → Option Bool} (h : PBw X sl e f) : PB X sl e f := PW.pt h
theorem pv_one {op} (ha : PV X sl .a a fa) : PV X sl .a (.BoolOp op [a] pos) fa := pe_one ha
theorem pv_and (ha : PV X sl .a a fa) (hb : PV X sl .a (.BoolOp .And (b :: rest) pos) fb) : PV X sl .a (.BoolOp .And (a :: b :: rest) pos) (fun s => (fa s).bind fun x => if x = true then fb s else some false) :=
  PE.imp (pe_and ha hb) fun σ H Q ⟨γ, S0, S, t, E, hf, q⟩ => by
    obtain ⟨x, h1, h2⟩ := bind1 hf
    refine ⟨γ, S0, S, x, E, h1, fun v H1 s1 r1 => ⟨x, r1, ?_⟩⟩
    cases x with
    | false => cases h2; exact q _ H1 s1 rfl
    | true => exact ⟨γ, S0, S, t, E.same s1, h2, fun v H2 s2 r2 => q v H2 (s1.trans s2) r2⟩
theorem pv_or (ha : PV X sl .a a fa) (hb : PV X sl .a (.BoolOp .Or (b :: rest) pos) fb) : PV X sl .a (.BoolOp .Or (a :: b :: rest) pos) (fun s => (fa s).bind fun x => if x = true then some true else fb s) :=
  PE.imp (pe_or ha hb) fun σ H Q ⟨γ, S0, S, t, E, hf, q⟩ => by
    obtain ⟨x, h1, h2⟩ := bind1 hf
    refine ⟨γ, S0, S, x, E, h1, fun v H1 s1 r1 => ⟨x, r1, ?_⟩⟩
    cases x with
    | true => cases h2; exact q _ H1 s1 rfl
    | false => exact ⟨γ, S0, S, t, E.same s1, h2, fun v H2 s2 r2 => q v H2 (s1.trans s2) r2⟩
theorem pv_not (ha : PV X sl .a a fa) : PV X sl .a (.UnaryOp .Not a pos) (fun s => (fa s).bind fun x => some (!x)) := PE.imp (pe_not ha) fun σ H Q ⟨γ, S0, S, t, E, hf, q⟩ => by
  obtain ⟨x, h1, h2⟩ := bind1 hf
  cases h2
  exact ⟨γ, S0, S, x, E, h1, fun v H' s r => ⟨x, r, q _ H' s rfl⟩⟩
theorem pv_if [Enc τ] {fc : Γ → Option Bool} {f g : Γ → Option τ} (hc : PB X sl c fc) (ha : PV X sl k a f) (hb : PV X sl k b g) : PV X sl k (.IfExp c a b pos) (fun s => (fc s).bind fun x => if x = true then f s else g s) :=
  PE.imp (pe_ifExp hc ha hb) fun σ H Q ⟨γ, S0, S, t, E, hf, q⟩ => by
    obtain ⟨x, h1, h2⟩ := bind1 hf
    refine ⟨γ, S0, S, x, E, h1, fun H1 s1 => ?_⟩
    cases x with
    | true => exact ⟨γ, S0, S, t, E.same s1, h2, fun v H2 s2 r2 => q v H2 (s1.trans s2) (r2.back s1)⟩
    | false => exact ⟨γ, S0, S, t, E.same s1, h2, fun v H2 s2 r2 => q v H2 (s1.trans s2) (r2.back s1)⟩
end

/-! ### == of scalars, of data -/
class Sc (τ : Type) [Enc τ] where
  val : τ → V
  rp : ∀ {K : PySem.W.Frag} {H : Hp} {T : Ad} {t : τ} {v : V}, Rb K H T (enc t) v → v = val t
  sc : ∀ s t : τ, scal (val s) (val t) = true
  inj : ∀ s t : τ, val s = val t → s = t
instance : Sc Int := ⟨V.int, fun h => rb_int h, fun _ _ => rfl, fun _ _ e => V.int.inj e⟩
instance : Sc Bool := ⟨V.bl, fun h => rb_bool h, fun _ _ => rfl, fun _ _ e => V.bl.inj e⟩
instance : Sc Tx := ⟨fun t => V.str ⟨t.cs.toArray⟩, fun h => rb_str h, fun _ _ => rfl, fun s t e => by
  have e1 := V.str.inj e
  have e2 : s.cs.toArray = t.cs.toArray := congrArg Str.cps e1
  have e3 : s.cs = t.cs := by simpa using e2
  cases s; cases t; exact congrArg Tx.mk e3⟩
theorem sc_dec [Enc τ] [Sc τ] [DecidableEq τ] (s t : τ) : decide (Sc.val s = Sc.val t) = decide (s = t) := by
  by_cases h : s = t
  · subst h; simp
  · rw [decide_eq_false h, decide_eq_false fun q => h (Sc.inj s t q)]
def c_eqS [Enc τ] [Sc τ] [DecidableEq τ] : Cmp X .Eq τ τ (fun x y => some (decide (x = y))) := ⟨_, op_eq, fun T H x y u w t Q hT r1 r2 e q => by
  cases e
  rw [Sc.rp r1, Sc.rp r2]
  exact ⟨Sc.sc u w, q _ H (Same.refl H) (by rw [sc_dec]; rfl)⟩⟩
def c_neS [Enc τ] [Sc τ] [DecidableEq τ] : Cmp X .NotEq τ τ (fun x y => some (!decide (x = y))) := ⟨_, op_ne, fun T H x y u w t Q hT r1 r2 e q => by
  cases e
  rw [Sc.rp r1, Sc.rp r2]
  exact ⟨Sc.sc u w, q _ H (Same.refl H) (by rw [sc_dec]; rfl)⟩⟩
/-- what is never None -/
class NN (τ : Type) [Enc τ] : Prop where
  nn : ∀ t : τ, enc t ≠ .none
instance : NN Int := ⟨nofun⟩
instance : NN Bool := ⟨nofun⟩
instance : NN Tx := ⟨nofun⟩
instance [Enc α] : NN (List α) := ⟨nofun⟩
instance [Enc α] [Enc β] : NN (T2 α β) := ⟨nofun⟩
instance [Enc α] [Enc β] [Enc γ'] : NN (T3 α β γ') := ⟨nofun⟩
instance [Enc α] [Enc β] [Enc γ'] [Enc τ] : NN (T4 α β γ' τ) := ⟨nofun⟩
/-- data that == compares -/
class EqT (τ : Type) [Enc τ] [DecidableEq τ] where
  ok : τ → Bool
  dep : Nat
  dle : ∀ t : τ, (enc t).depth ≤ dep
  can : ∀ t : τ, ok t = true → (enc t).canLay0 = true
  eqv : ∀ s t : τ, PyData.eqv (enc s) (enc t) = decide (s = t)
instance : EqT Int := ⟨fun _ => true, 0, fun _ => Nat.le_refl _, fun _ _ => rfl, fun s t => by show PyData.eqv (.int s) (.int t) = _; unfold PyData.eqv; exact Bool.beq_eq_decide_eq s t⟩
instance : EqT Bool := ⟨fun _ => true, 0, fun _ => Nat.le_refl _, fun _ _ => rfl, fun s t => by show PyData.eqv (.bool s) (.bool t) = _; unfold PyData.eqv; exact Bool.beq_eq_decide_eq s t⟩
instance : EqT Tx := ⟨fun t => PyData.strOk ⟨t.cs.toArray⟩, 0, fun _ => Nat.le_refl _, fun _ h => h, fun s t => by
  show PyData.eqv (.str _) (.str _) = _
  unfold PyData.eqv
  rw [Bool.beq_eq_decide_eq]
  by_cases h : s = t
  · subst h; simp
  · rw [decide_eq_false h, decide_eq_false]
    intro q
    apply h
    have e2 : s.cs.toArray = t.cs.toArray := congrArg Str.cps q
    cases s; cases t
    simpa using e2⟩
theorem depthAll_le {n : Nat} : ∀ {ds : List PyData}, (∀ d ∈ ds, d.depth ≤ n) → PyData.depthAll ds ≤ n
  | [], _ => by unfold PyData.depthAll; exact Nat.zero_le _
  | d :: ds, h => by
    unfold PyData.depthAll
    exact Nat.max_le.mpr ⟨h d List.mem_cons_self, depthAll_le fun x hx => h x (List.mem_cons_of_mem _ hx)⟩
theorem canAll_of : ∀ {ds : List PyData}, (∀ d ∈ ds, d.canLay0 = true) → PyData.canLayAll0 ds = true
  | [], _ => rfl
  | d :: ds, h => by
    unfold PyData.canLayAll0
    rw [h d List.mem_cons_self, canAll_of fun x hx => h x (List.mem_cons_of_mem _ hx)]
    rfl
section
variable [Enc α] [DecidableEq α] [EqT α] [Enc β] [DecidableEq β] [EqT β] [Enc γ'] [DecidableEq γ'] [EqT γ']
theorem eqvAll_of : ∀ xs ys : List α, PyData.eqvAll (xs.map enc) (ys.map enc) = decide (xs = ys)
  | [], [] => by simp [PyData.eqvAll]
  | [], _ :: _ => by simp [PyData.eqvAll]
  | _ :: _, [] => by simp [PyData.eqvAll]
  | x :: xs, y :: ys => by
    rw [List.map_cons, List.map_cons, PyData.eqvAll, EqT.eqv, eqvAll_of xs ys]
    simp
instance : EqT (List α) := ⟨fun t => t.all EqT.ok, EqT.dep α + 1, fun t => by
  show PyData.depth (.list (t.map enc)) ≤ _
  unfold PyData.depth
  refine Nat.succ_le_succ (depthAll_le fun d hd => ?_)
  obtain ⟨x, _, rfl⟩ := List.mem_map.mp hd
  exact EqT.dle x, fun t h => by
  show PyData.canLay0 (.list (t.map enc)) = true
  unfold PyData.canLay0
  refine canAll_of fun d hd => ?_
  obtain ⟨x, hx, rfl⟩ := List.mem_map.mp hd
  exact EqT.can x (List.all_eq_true.mp h x hx), fun s t => by
  show PyData.eqv (.list (s.map enc)) (.list (t.map enc)) = _
  unfold PyData.eqv
  exact eqvAll_of s t⟩
theorem eqv_none {d : PyData} (h : d ≠ .none) : PyData.eqv .none d = false ∧ PyData.eqv d .none = false := by
  cases d with
  | none => exact absurd rfl h
  | bool _ => simp [PyData.eqv]
  | int _ => simp [PyData.eqv]
  | str _ => simp [PyData.eqv]
  | list _ => simp [PyData.eqv]
  | tuple _ => simp [PyData.eqv]
  | dict _ => simp [PyData.eqv]
instance [NN α] : EqT (Option α) := ⟨fun t => match t with | none => true | some t => EqT.ok t, EqT.dep α, fun t => match t with
  | none => Nat.zero_le _
  | some t => EqT.dle t, fun t h => match t, h with
  | none, _ => rfl
  | some t, h => EqT.can t h, fun s t => match s, t with
  | none, none => by simp; rfl
  | none, some t => by simp; exact (eqv_none (NN.nn t)).1
  | some s, none => by simp; exact (eqv_none (NN.nn s)).2
  | some s, some t => by
    have e := EqT.eqv s t
    by_cases h : s = t
    · subst h; simp at e ⊢; exact e
    · simp [h] at e ⊢; exact e⟩
instance : EqT (T2 α β) := ⟨fun t => EqT.ok t.a && EqT.ok t.b, max (EqT.dep α) (EqT.dep β) + 1, fun t => by
  show PyData.depth (.tuple [enc t.a, enc t.b]) ≤ _
  have h1 := EqT.dle t.a
  have h2 := EqT.dle t.b
  simp only [PyData.depth, PyData.depthAll]
  omega, fun t h => by
  show PyData.canLay0 (.tuple [enc t.a, enc t.b]) = true
  simp only [Bool.and_eq_true] at h
  simp [PyData.canLay0, PyData.canLayAll0, EqT.can t.a h.1, EqT.can t.b h.2], fun s t => by
  show PyData.eqv (.tuple [enc s.a, enc s.b]) (.tuple [enc t.a, enc t.b]) = _
  simp only [PyData.eqv, PyData.eqvAll, EqT.eqv]
  cases s; cases t; simp⟩
instance : EqT (T3 α β γ') := ⟨fun t => EqT.ok t.a && (EqT.ok t.b && EqT.ok t.c), max (EqT.dep α) (max (EqT.dep β) (EqT.dep γ')) + 1, fun t => by
  show PyData.depth (.tuple [enc t.a, enc t.b, enc t.c]) ≤ _
  have h1 := EqT.dle t.a
  have h2 := EqT.dle t.b
  have h3 := EqT.dle t.c
  simp only [PyData.depth, PyData.depthAll]
  omega, fun t h => by
  show PyData.canLay0 (.tuple [enc t.a, enc t.b, enc t.c]) = true
  simp only [Bool.and_eq_true] at h
  simp [PyData.canLay0, PyData.canLayAll0, EqT.can t.a h.1, EqT.can t.b h.2.1, EqT.can t.c h.2.2], fun s t => by
  show PyData.eqv (.tuple [enc s.a, enc s.b, enc s.c]) (.tuple [enc t.a, enc t.b, enc t.c]) = _
  simp only [PyData.eqv, PyData.eqvAll, EqT.eqv]
  cases s; cases t; simp⟩
end
instance [Enc α] [DecidableEq α] [EqT α] [Enc β] [DecidableEq β] [EqT β] [Enc γ'] [DecidableEq γ'] [EqT γ'] [Enc τ] [DecidableEq τ] [EqT τ] : EqT (T4 α β γ' τ) := ⟨fun t => EqT.ok t.a && (EqT.ok t.b && (EqT.ok t.c && EqT.ok t.d)), max (EqT.dep α) (max (EqT.dep β) (max (EqT.dep γ') (EqT.dep τ))) + 1, fun t => by
  show PyData.depth (.tuple [enc t.a, enc t.b, enc t.c, enc t.d]) ≤ _
  have h1 := EqT.dle t.a
  have h2 := EqT.dle t.b
  have h3 := EqT.dle t.c
  have h4 := EqT.dle t.d
  simp only [PyData.depth, PyData.depthAll]
  omega, fun t h => by
  show PyData.canLay0 (.tuple [enc t.a, enc t.b, enc t.c, enc t.d]) = true
  simp only [Bool.and_eq_true] at h
  simp [PyData.canLay0, PyData.canLayAll0, EqT.can t.a h.1, EqT.can t.b h.2.1, EqT.can t.c h.2.2.1, EqT.can t.d h.2.2.2], fun s t => by
  show PyData.eqv (.tuple [enc s.a, enc s.b, enc s.c, enc s.d]) (.tuple [enc t.a, enc t.b, enc t.c, enc t.d]) = _
  simp only [PyData.eqv, PyData.eqvAll, EqT.eqv]
  cases s; cases t; simp⟩

theorem Rb.dp {K : PySem.W.Frag} {H : Hp} {T : Ad} {d : PyData} {v : V} (h : Rb K H T d v) (n : PyData.hasDict d = false) : Dp K H v d := by
  rcases h with h | ⟨ds, a, xs, rfl, rfl, h1, h2⟩ | ⟨kvs, _, _, rfl, _⟩
  · exact Rp.dp d v h (by rintro kvs rfl; simp [PyData.hasDict] at n) n
  · exact .lst (.inl h1) (RpA.dp ds xs h2 (by simpa [PyData.hasDict] using n))
  · simp [PyData.hasDict] at n
section
variable [Enc τ] [DecidableEq τ] [EqT τ]
theorem shaped_of {t : τ} (h : EqT.ok t = true) (hd : EqT.dep τ ≤ 64) : SeqAt.shaped (enc t) = true := by
  unfold SeqAt.shaped
  rw [EqT.can t h, decide_eq_true (Nat.le_trans (EqT.dle t) hd)]
  rfl
def dEq (x y : τ) : Option Bool := if EqT.ok x = true ∧ EqT.ok y = true then some (decide (x = y)) else none
def dNe (x y : τ) : Option Bool := if EqT.ok x = true ∧ EqT.ok y = true then some (!decide (x = y)) else none
def c_eqD (hu : X.A.units + 64 < cLine) (hd : EqT.dep τ ≤ 64 := by decide) : Cmp X .Eq τ τ (fun x y => dEq x y) := ⟨_, op_eqD hu, fun T H x y u w t Q hT r1 r2 e q => by
  obtain ⟨⟨h1, h2⟩, rfl⟩ := if_some e
  refine ⟨enc u, enc w, r1.dp (PyData.hasDict_of_canLay _ (EqT.can u h1)), r2.dp (PyData.hasDict_of_canLay _ (EqT.can w h2)), shaped_of h1 hd, shaped_of h2 hd, q _ H (Same.refl H) ?_⟩
  rw [EqT.eqv]; rfl⟩
def c_neD (hu : X.A.units + 64 < cLine) (hd : EqT.dep τ ≤ 64 := by decide) : Cmp X .NotEq τ τ (fun x y => dNe x y) := ⟨_, op_neD hu, fun T H x y u w t Q hT r1 r2 e q => by
  obtain ⟨⟨h1, h2⟩, rfl⟩ := if_some e
  refine ⟨enc u, enc w, r1.dp (PyData.hasDict_of_canLay _ (EqT.can u h1)), r2.dp (PyData.hasDict_of_canLay _ (EqT.can w h2)), shaped_of h1 hd, shaped_of h2 hd, q _ H (Same.refl H) ?_⟩
  rw [EqT.eqv]; rfl⟩
end
/-! ### is None -/
theorem rb_non {K : PySem.W.Frag} {H : Hp} {T : Ad} {d : PyData} (h : Rb K H T d .non) : d = .none := by
  rcases h with h | ⟨_, _, _, _, e, _⟩ | ⟨_, _, _, _, e, _⟩
  · cases d with
    | none => rfl
    | bool b => cases (show V.non = .bl b from h)
    | int b => cases (show V.non = .int b from h)
    | str b => cases (show V.non = .str b from h)
    | list b => obtain ⟨_, _, e, _⟩ := h; cases e
    | tuple b => obtain ⟨_, _, e, _⟩ := h; cases e
    | dict b => obtain ⟨_, _, e, _⟩ := h; cases e
  · cases e
  · cases e
section
variable [Enc τ] [NN τ] {f : Γ → Option (Option τ)}
theorem isN_dec {K : PySem.W.Frag} {H : Hp} {T : Ad} {t : Option τ} {v : V} (h : Rb K H T (enc t) v) : decide (v = .non) = t.isNone := by
  cases t with
  | none => rw [rb_none h]; rfl
  | some t =>
    refine decide_eq_false fun e => ?_
    subst e
    exact NN.nn t (rb_non h)
def c_is : Cmp X .Is (Option τ) Unit (fun x _ => some x.isNone) := ⟨_, op_isN, fun T H x y u w t Q hT r1 r2 e q => by
  cases e
  exact ⟨rb_none r2, q _ H (Same.refl H) (by rw [isN_dec r1]; rfl)⟩⟩
def c_isnt : Cmp X .IsNot (Option τ) Unit (fun x _ => some (!x.isNone)) := ⟨_, op_notN, fun T H x y u w t Q hT r1 r2 e q => by
  cases e
  exact ⟨rb_none r2, q _ H (Same.refl H) (by rw [isN_dec r1]; rfl)⟩⟩
end
end PL

/-! PL4: lists, tuples, texts, known functions. -/
namespace PL
open PySem PySem.Spec L2
open Enc (enc)

variable {Γ Γ' ρ τ α β γ' δ : Type} {X : Cx} {sl : Γ → Sl} {e a b c : Expr} {k k1 k2 k3 : Kd} {pos : Pos}

/-! ### what a value is, by its type -/
section
variable {K : PySem.W.Frag} {H : Hp} {T : Ad} {v : V}
theorem rb_l [Enc τ] {t : List τ} (h : Rb K H T (enc t) v) : ∃ a xs, v = .ref a ∧ SqL K H a xs ∧ RpA K H T (t.map enc) xs := rb_list h
theorem rb_i {t : Int} (h : Rb K H T (enc t) v) : v = .int t := rb_int h
theorem rb_t {t : Tx} (h : Rb K H T (enc t) v) : v = .str ⟨t.cs.toArray⟩ := rb_str h
/-- a new list -/
theorem fr_new [Enc τ] {t : List τ} {p : Addr} {xs : List V} (hT : ∀ a, T a → H a ≠ none) (hp : H p = none) (h : RpA K H T (t.map enc) xs) : RK .f K H (upd H p (.lst xs)) T (enc t) (.ref p) := by
  refine ⟨p, rfl, hp, .inl ⟨_, xs, rfl, upd_same, h.mv fun a o e n => ?_⟩⟩
  have ne := ne_of_none e hp
  exact ⟨by rw [upd_ne ne]; exact e, fun z => z.elim n ne⟩
theorem same_new {p : Addr} {o : HO} (h : H p = none) : Same H (upd H p o) := fun b x e => by
  rw [upd_ne (ne_of_none e h)]
  exact e
theorem rp_newT {ds : List PyData} {p : Addr} {xs : List V} (hT : ∀ a, T a → H a ≠ none) (hp : H p = none) (h : RpA K H T ds xs) : Rp K (upd H p (.tup xs)) T (.tuple ds) (.ref p) :=
  ⟨p, xs, rfl, .inl ⟨.inl upd_same, fun z => hT p z hp⟩, h.mv (.same (same_new hp))⟩
theorem map_len [Enc τ] {t : List τ} {xs : List V} (h : RpA K H T (t.map enc) xs) : xs.length = t.length := by rw [h.length, List.length_map]
theorem map_get [Enc τ] {t : List τ} {xs : List V} {i : Nat} {d : τ} (h : RpA K H T (t.map enc) xs) (e : t[i]? = some d) : ∃ v, xs[i]? = some v ∧ Rp K H T (enc d) v :=
  h.get (by rw [List.getElem?_map, e]; rfl)
theorem rpa_at {ds : List PyData} {xs : List V} {i : Int} {d : PyData} (h : RpA K H T ds xs) (e : atI ds i = some d) : ∃ v, atI xs i = some v ∧ Rp K H T d v := by
  unfold atI at e ⊢
  rw [h.length]
  obtain ⟨j, h1, h2⟩ := bind1 e
  obtain ⟨v, h3, h4⟩ := h.get h2
  exact ⟨v, by rw [h1]; exact h3, h4⟩
theorem map_at [Enc τ] {t : List τ} {xs : List V} {i : Int} {d : τ} (h : RpA K H T (t.map enc) xs) (e : atI t i = some d) : ∃ v, atI xs i = some v ∧ Rp K H T (enc d) v := by
  unfold atI at e ⊢
  rw [map_len h]
  obtain ⟨j, h1, h2⟩ := bind1 e
  obtain ⟨v, h3, h4⟩ := map_get h h2
  exact ⟨v, by rw [h1]; exact h3, h4⟩
end

/-! ### subscripts -/
theorem pv_ix [Enc τ] {fa : Γ → Option (List τ)} {fb : Γ → Option Int} (ha : PV X sl .b a fa) (hb : PV X sl .b b fb) (hx : PlainIx b := by exact fun _ _ => rfl) : PV X sl .a (.Subscript a b pos) (fun s => (fa s).bind fun x => (fb s).bind fun i => atI x i) :=
  pv_2 (fun h1 h2 => pe_ix ix_list h1 h2 hx) (fun T H x y u w t Q hT r1 r2 e q => by
    obtain ⟨p, xs, rfl, h1, h2⟩ := rb_l r1
    obtain ⟨v, h3, h4⟩ := map_at h2 e
    exact ⟨p, xs, w, v, rfl, rb_i r2, h1, h3, q v H (Same.refl H) h4⟩) ha hb
/-- t[j] of a tuple -/
theorem pv_ixT [Enc τ] [Enc β] {fa : Γ → Option τ} {i : Int} {j0 : Nat} {p0 : Pos} (ds : τ → List PyData) (p : τ → β) (hd : ∀ t, enc t = .tuple (ds t)) (hi : ∀ t, atI (ds t) i = some (enc (p t))) (ha : PV X sl .b a fa) :
    PV X sl .a (.Subscript a (.Constant (.int i) j0 p0) pos) (fun s => (fa s).bind fun x => some (p x)) := by
  refine PV.eq (f := fun s => (fa s).bind fun x => (some i : Option Int).bind fun w => if w = i then some (p x) else none) ?_ (by funext s; cases fa s <;> simp)
  exact pv_2 (fb := fun _ => some i) (g := fun x w => if w = i then some (p x) else none) (fun h1 h2 => pe_ix ix_tup h1 h2 (fun _ _ => rfl)) (fun T H x y u w t Q hT r1 r2 e q => by
    obtain ⟨rfl, rfl⟩ := if_some e
    rw [hd u] at r1
    obtain ⟨a, xs, rfl, h1, h2⟩ := rb_tup r1
    obtain ⟨v, h3, h4⟩ := rpa_at h2 (hi u)
    exact ⟨a, xs, w, v, rfl, rb_i r2, h1, h3, q v H (Same.refl H) h4⟩) ha pv_int.ab
def sIx (t : Tx) (i : Int) : Option Tx := if t.cs.length ≤ sizeLine then (atI t.cs i).map fun c => ⟨[c]⟩ else none
theorem pv_ixS {fa : Γ → Option Tx} {fb : Γ → Option Int} (ha : PV X sl .b a fa) (hb : PV X sl .b b fb) (hx : PlainIx b := by exact fun _ _ => rfl) : PV X sl .a (.Subscript a b pos) (fun s => (fa s).bind fun x => (fb s).bind fun i => sIx x i) :=
  pv_2 (fun h1 h2 => pe_ix ix_str h1 h2 hx) (fun T H x y u w t Q hT r1 r2 e q => by
    unfold sIx at e
    by_cases hz : u.cs.length ≤ sizeLine
    · rw [if_pos hz] at e
      cases h : atI u.cs w with
      | none => rw [h] at e; cases e
      | some c =>
        rw [h] at e
        cases e
        exact ⟨_, w, c, rb_t r1, rb_i r2, hz, h, q _ H (Same.refl H) rfl⟩
    · rw [if_neg hz] at e; cases e) ha hb

/-! ### slices -/
def cut (xs : List τ) (lo hi : Option Int) : List τ := (xs.drop (HT.sIx xs.length 0 lo)).take (HT.sIx xs.length xs.length hi - HT.sIx xs.length 0 lo)
def tOo (K : PySem.W.Frag) (sl : Γ → Sl) (f : Γ → Option (Option Int)) : TO := fun σ H Q =>
  ∃ (g : Γ) (S0 S : Ad) (t : Option Int), EnvS K S0 S H (sl g) σ ∧ f g = some t ∧ ∀ H', Same H H' → Q t H'
def PVo (X : Cx) (sl : Γ → Sl) (e : Option Expr) (f : Γ → Option (Option Int)) : Prop := PO X e (tOo X.K sl f)
theorem pvo_none : PVo X sl none (fun _ => some none) := PO.imp po_none fun σ H Q ⟨g, S0, S, t, E, hf, q⟩ => by
  cases hf
  exact q H (Same.refl H)
theorem pvo_some {f : Γ → Option Int} (h : PV X sl .b e f) : PVo X sl (some e) (fun s => (f s).bind fun i => some (some i)) := PO.imp (po_some h) fun σ H Q ⟨g, S0, S, t, E, hf, q⟩ => by
  obtain ⟨i, h1, h2⟩ := bind1 hf
  cases h2
  exact ⟨g, S0, S, i, E, h1, fun v H' s r => ⟨i, rb_i r, q H' s⟩⟩
theorem cut_rp [Enc τ] {K : PySem.W.Frag} {H : Hp} {T : Ad} {t : List τ} {xs : List V} {lo hi : Option Int} (h : RpA K H T (t.map enc) xs) : RpA K H T ((cut t lo hi).map enc) (cutV xs lo hi) := by
  unfold cut cutV
  rw [map_len h, List.map_take, List.map_drop]
  exact RpA.take _ (RpA.drop _ h)
section
variable {lo hi : Option Expr} {fl fh : Γ → Option (Option Int)} {p2 : Pos}
theorem pv_sl [Enc τ] {fa : Γ → Option (List τ)} (ha : PV X sl .b a fa) (hl : PVo X sl lo fl) (hh : PVo X sl hi fh) : PV X sl .f (.Subscript a (.Slice lo hi none p2) pos) (fun s => (fa s).bind fun x => (fl s).bind fun i => (fh s).bind fun j => some (cut x i j)) :=
  PE.imp (pe_slice sl_list ha hl hh) fun σ H Q ⟨g, S0, S, t, E, hf, q⟩ => by
    obtain ⟨x, i, h1, h2, h3⟩ := bind2 hf
    obtain ⟨j, h4, h5⟩ := bind1 h3
    cases h5
    refine ⟨g, S0, S, x, E, h1, fun v H1 s1 r1 => ⟨g, S0, S, i, E.same s1, h2, fun H2 s2 => ⟨g, S0, S, j, (E.same s1).same s2, h4, fun H3 s3 => ?_⟩⟩⟩
    have s23 := s2.trans s3
    obtain ⟨p, xs, rfl, h6, h7⟩ := rb_l (Rb.mv (.same s23) r1 s23)
    have s13 := s1.trans s23
    refine ⟨p, xs, rfl, h6, fun r hr => ?_⟩
    exact q _ _ (s13.trans (same_new hr)) ((fr_new (E.same s13).dT hr (cut_rp h7)).back s13)
def cutT (t : Tx) (lo hi : Option Int) : Option Tx := if t.cs.length ≤ sizeLine then some ⟨cut t.cs lo hi⟩ else none
theorem pv_slS {fa : Γ → Option Tx} (ha : PV X sl .b a fa) (hl : PVo X sl lo fl) (hh : PVo X sl hi fh) : PV X sl .a (.Subscript a (.Slice lo hi none p2) pos) (fun s => (fa s).bind fun x => (fl s).bind fun i => (fh s).bind fun j => cutT x i j) :=
  PE.imp (pe_slice sl_str ha hl hh) fun σ H Q ⟨g, S0, S, t, E, hf, q⟩ => by
    obtain ⟨x, i, h1, h2, h3⟩ := bind2 hf
    obtain ⟨j, h4, h5⟩ := bind1 h3
    obtain ⟨hz, rfl⟩ := if_some h5
    refine ⟨g, S0, S, x, E, h1, fun v H1 s1 r1 => ⟨g, S0, S, i, E.same s1, h2, fun H2 s2 => ⟨g, S0, S, j, (E.same s1).same s2, h4, fun H3 s3 => ?_⟩⟩⟩
    exact ⟨_, rb_t r1, hz, q _ _ (s1.trans (s2.trans s3)) rfl⟩
theorem pv_rev [Enc τ] {fa : Γ → Option (List τ)} {k0 : Nat} {p1 p2 p3 : Pos} (ha : PV X sl .b a fa) : PV X sl .f (.Subscript a (.Slice none none (some (.UnaryOp .USub (.Constant (.int 1) k0 p1) p2)) p3) pos) (fun s => (fa s).bind fun x => some x.reverse) :=
  PE.imp (pe_revL ha) fun σ H Q ⟨g, S0, S, t, E, hf, q⟩ => by
    obtain ⟨x, h1, h2⟩ := bind1 hf
    cases h2
    refine ⟨g, S0, S, x, E, h1, fun v H1 s1 r1 => ?_⟩
    obtain ⟨p, xs, rfl, h6, h7⟩ := rb_l r1
    refine ⟨p, xs, rfl, h6, fun r hr => ?_⟩
    exact q _ _ (s1.trans (same_new hr)) ((fr_new (E.same s1).dT hr (by rw [List.map_reverse]; exact h7.rev)).back s1)
end

/-! ### list + list, text + text -/
def rCatQ (K : PySem.W.Frag) : R2 := fun x y H Q => ∃ l b xs zs, x = .ref l ∧ y = .ref b ∧ SqL K H l xs ∧ SqL K H b zs ∧ xs.length + zs.length ≤ sizeLine ∧ ∀ p, H p = none → Q (.ref p) (upd H p (.lst (xs ++ zs)))
theorem op_catQ : OpR X (binaryOp .Add) (rCatQ X.K) := by
  intro pins s σ H x y v u Q I rx ry h
  obtain ⟨l, m, xs, zs, rfl, rfl, h1, h2, hz, q⟩ := h
  cases rx; cases ry
  obtain ⟨its, r, ⟨o, n, ho, hc, _, hd⟩, _⟩ := I.list h1
  obtain ⟨its2, r2, ⟨o2, n2, ho2, hc2, _, hd2⟩, _⟩ := I.list h2
  obtain ⟨c1, d1, t1, w1⟩ := o
  obtain ⟨c2, d2, t2, w2⟩ := o2
  simp only at hc hd hc2 hd2
  subst hc hd hc2 hd2
  have hs : its.toArray.size + its2.toArray.size ≤ sizeLine := by
    rw [List.size_toArray, List.size_toArray, ← r.length, ← r2.length]; exact hz
  have G := PyProof.Rows.list_addW l m its.toArray its2.toArray n n2 d1 d2 w1 w2 hs
  refine concat_meets ⟨_, ho, rfl⟩ ⟨_, ho2, rfl⟩ noFill_list_add seq_list_add PySem.F.slot_list_add PySem.F.entry_list_add (PySem.F.args_list_add_2 _ _) G ⟨ho, ho2, ?_⟩
  have ea : its.toArray ++ its2.toArray = (its ++ its2).toArray := by simp
  rw [ea]
  exact ⟨.ref _, _, I.lnew (t' := s.toks) (r.append r2) (by rw [List.length_append]; exact hz), rfl, q _ I.fresh⟩
def lCat (x y : List τ) : Option (List τ) := if x.length + y.length ≤ sizeLine then some (x ++ y) else none
theorem pv_cat [Enc τ] {fa fb : Γ → Option (List τ)} (ha : PV X sl .b a fa) (hb : PV X sl .b b fb) : PV X sl .f (.BinOp a .Add b pos) (fun s => (fa s).bind fun x => (fb s).bind fun y => lCat x y) :=
  pv_2 (pe_op op_catQ) (fun T H x y u w t Q hT r1 r2 e q => by
    obtain ⟨hz, rfl⟩ := if_some e
    obtain ⟨p, xs, rfl, h1, h2⟩ := rb_l r1
    obtain ⟨p', xs', rfl, h1', h2'⟩ := rb_l r2
    refine ⟨p, p', xs, xs', rfl, rfl, h1, h1', by rw [map_len h2, map_len h2']; exact hz, fun r hr => ?_⟩
    exact q _ _ (same_new hr) (fr_new hT hr (by rw [List.map_append]; exact h2.append h2'))) ha hb
def tCat (x y : Tx) : Option Tx := if x.cs.length + y.cs.length ≤ sizeLine then some ⟨x.cs ++ y.cs⟩ else none
theorem str_app (x y : List Nat) : ((⟨x.toArray⟩ : Str) ++ (⟨y.toArray⟩ : Str)) = ⟨(x ++ y).toArray⟩ := by
  show Str.mk _ = _
  congr 1
  simp
theorem pv_catS {fa fb : Γ → Option Tx} (ha : PV X sl .b a fa) (hb : PV X sl .b b fb) : PV X sl .a (.BinOp a .Add b pos) (fun s => (fa s).bind fun x => (fb s).bind fun y => tCat x y) :=
  pv_2 (pe_op op_add_str) (fun T H x y u w t Q hT r1 r2 e q => by
    obtain ⟨hz, rfl⟩ := if_some e
    exact ⟨_, _, rb_t r1, rb_t r2, hz, q _ H (Same.refl H) (by rw [str_app]; rfl)⟩) ha hb

/-! ### known functions -/
section
variable {x : Str} {p : Pos} {fa fb : Γ → Option Int}
theorem pv_len [Enc τ] {fa : Γ → Option (List τ)} (hg : Gl X "len") (hm : X.mg "len" = none) (ha : PV X sl .b a fa) (he : starEach [a] X.env = (false, eval a X.env) :: starEach [] X.env := by rfl) :
    PV X sl .a (.Call (.Name "len" p) [a] [] pos) (fun s => (fa s).bind fun x => some (x.length : Int)) :=
  pv_c1 (fun h => pe_callB call_len_seq hg hm PySem.boot_len (pa_cons h pa_nil he) (he := he)) (fun T H x u t Q hT r e q => by
    cases e
    obtain ⟨p, xs, rfl, h1, h2⟩ := rb_l r
    exact ⟨p, xs, rfl, .inl h1, q _ H (Same.refl H) (by rw [map_len h2]; rfl)⟩) ha
end
end PL

/-! PL5: displays, known functions. -/
namespace PL
open PySem PySem.Spec L2
open Enc (enc)

variable {Γ Γ' ρ τ α β γ' δ : Type} {X : Cx} {sl : Γ → Sl} {e a b c d : Expr} {es : List Expr} {k k1 k2 k3 : Kd} {pos : Pos}

/-! ### displays -/
def tAl [Enc τ] (K : PySem.W.Frag) (sl : Γ → Sl) (f : Γ → Option (List τ)) : TA := fun σ H Q =>
  ∃ (g : Γ) (S0 S : Ad) (t : List τ), EnvS K S0 S H (sl g) σ ∧ f g = some t ∧ ∀ vs H', Same H H' → RpA K H' (un S S0) (t.map enc) vs → Q vs H'
def PAl [Enc τ] (X : Cx) (sl : Γ → Sl) (n : Nat) (es : List Expr) (f : Γ → Option (List τ)) : Prop := PA X es (tAl X.K sl f) ∧ ∀ s t, f s = some t → t.length ≤ n
def PAs [Enc τ] (X : Cx) (sl : Γ → Sl) (es : List Expr) (f : Γ → Option (List τ)) : Prop := PA X es (tAl X.K sl f)
theorem pas_nil [Enc τ] : PAs X sl [] (fun _ => some ([] : List τ)) := PA.imp pa_nil fun σ H Q ⟨g, S0, S, t, E, hf, q⟩ => by
  cases hf
  exact q [] H (Same.refl H) rfl
theorem pas_cons [Enc τ] {f : Γ → Option τ} {g : Γ → Option (List τ)} (h : PV X sl .a e f) (hr : PAs X sl es g) (hs : starEach (e :: es) X.env = (false, eval e X.env) :: starEach es X.env := by rfl) :
    PAs X sl (e :: es) (fun s => (f s).bind fun x => (g s).bind fun r => some (x :: r)) := PA.imp (pa_cons h hr hs) fun σ H Q ⟨γ, S0, S, t, E, hf, q⟩ => by
  obtain ⟨x, r, h1, h2, h3⟩ := bind2 hf
  cases h3
  refine ⟨γ, S0, S, x, E, h1, fun v H1 s1 r1 => ⟨γ, S0, S, r, E.same s1, h2, fun vs H2 s2 r2 => ?_⟩⟩
  exact q _ H2 (s1.trans s2) ⟨v, vs, rfl, Rp.mv (.same s2) _ v r1, r2⟩
theorem pas_star [Enc τ] {f : Γ → Option (List τ)} {g : Γ → Option (List τ)} {p : Pos} (h : PV X sl .b e f) (hr : PAs X sl es g) (hs : starEach (.Starred e p :: es) X.env = (true, eval e X.env) :: starEach es X.env := by rfl) :
    PAs X sl (.Starred e p :: es) (fun s => (f s).bind fun x => (g s).bind fun r => some (x ++ r)) := PA.imp (StX.pa_star h hr hs) fun σ H Q ⟨γ, S0, S, t, E, hf, q⟩ => by
  obtain ⟨x, r, h1, h2, h3⟩ := bind2 hf
  cases h3
  refine ⟨γ, S0, S, x, E, h1, fun v H1 s1 r1 => ?_⟩
  obtain ⟨p, xs, rfl, h4, h5⟩ := rb_l r1
  refine ⟨p, xs, rfl, .inr h4, γ, S0, S, r, E.same s1, h2, fun vs H2 s2 r2 => ?_⟩
  exact q _ H2 (s1.trans s2) (by rw [List.map_append]; exact (h5.mv (.same s2)).append r2)
theorem pal_nil [Enc τ] : PAl X sl 0 [] (fun _ => some ([] : List τ)) := ⟨pas_nil, fun s t h => by cases h; exact Nat.le_refl _⟩
theorem pal_cons [Enc τ] {n : Nat} {f : Γ → Option τ} {g : Γ → Option (List τ)} (h : PV X sl .a e f) (hr : PAl X sl n es g) (hs : starEach (e :: es) X.env = (false, eval e X.env) :: starEach es X.env := by rfl) :
    PAl X sl (n + 1) (e :: es) (fun s => (f s).bind fun x => (g s).bind fun r => some (x :: r)) := ⟨pas_cons h hr.1 hs, fun s t hf => by
  obtain ⟨x, r, h1, h2, h3⟩ := bind2 hf
  cases h3
  exact Nat.succ_le_succ (hr.2 s r h2)⟩
def lNew (t : List τ) : Option (List τ) := if t.length ≤ sizeLine then some t else none
theorem pv_lstS [Enc τ] {f : Γ → Option (List τ)} (h : PAs X sl es f) : PV X sl .f (.List es pos) (fun s => (f s).bind fun x => lNew x) := PE.imp (pe_lst h) fun σ H Q ⟨γ, S0, S, t, E, hf, q⟩ => by
  obtain ⟨x, h1, h2⟩ := bind1 hf
  obtain ⟨hz, rfl⟩ := if_some h2
  refine ⟨γ, S0, S, x, E, h1, fun vs H1 s1 r1 => ⟨by rw [map_len r1]; exact hz, fun p hp => ?_⟩⟩
  exact q _ _ (s1.trans (same_new hp)) ((fr_new (E.same s1).dT hp r1).back s1)
theorem pv_lst [Enc τ] {n : Nat} {f : Γ → Option (List τ)} (h : PAl X sl n es f) (hn : n ≤ sizeLine := by decide) : PV X sl .f (.List es pos) f := PE.imp (pe_lst h.1) fun σ H Q ⟨γ, S0, S, t, E, hf, q⟩ => by
  refine ⟨γ, S0, S, t, E, hf, fun vs H1 s1 r1 => ⟨by rw [map_len r1]; exact Nat.le_trans (h.2 _ _ hf) hn, fun p hp => ?_⟩⟩
  exact q _ _ (s1.trans (same_new hp)) ((fr_new (E.same s1).dT hp r1).back s1)
section
variable [Enc α] [Enc β] [Enc γ'] [Enc δ] {fa : Γ → Option α} {fb : Γ → Option β} {fc : Γ → Option γ'} {fd : Γ → Option δ}
theorem pv_tup2 {x1} (ha : PV X sl .a a fa) (hb : PV X sl .a b fb) (h1 : starEach [a, b] X.env = (false, eval a X.env) :: starEach [b] X.env := by rfl) (h2 : starEach [b] X.env = (false, eval b X.env) :: starEach [] X.env := by rfl) :
    PV X sl .a (.Tuple [a, b] x1 pos) (fun s => (fa s).bind fun x => (fb s).bind fun y => some (T2.mk x y)) := PE.imp (pe_tup (pa_cons ha (pa_cons hb pa_nil h2) h1)) fun σ H Q ⟨γ, S0, S, t, E, hf, q⟩ => by
  obtain ⟨x, y, e1, e2, e3⟩ := bind2 hf
  cases e3
  refine ⟨γ, S0, S, x, E, e1, fun v H1 s1 r1 => ⟨γ, S0, S, y, E.same s1, e2, fun w H2 s2 r2 => ⟨by show 2 ≤ sizeLine; decide, fun p hp => ?_⟩⟩⟩
  have s12 := s1.trans s2
  exact q _ _ (s12.trans (same_new hp)) (rp_newT (E.same s12).dT hp ⟨v, [w], rfl, Rp.mv (.same s2) _ v r1, .one r2⟩)
theorem pv_tup3 {x1} (ha : PV X sl .a a fa) (hb : PV X sl .a b fb) (hc : PV X sl .a c fc) (h1 : starEach [a, b, c] X.env = (false, eval a X.env) :: starEach [b, c] X.env := by rfl) (h2 : starEach [b, c] X.env = (false, eval b X.env) :: starEach [c] X.env := by rfl) (h3 : starEach [c] X.env = (false, eval c X.env) :: starEach [] X.env := by rfl) :
    PV X sl .a (.Tuple [a, b, c] x1 pos) (fun s => (fa s).bind fun x => (fb s).bind fun y => (fc s).bind fun z => some (T3.mk x y z)) := PE.imp (pe_tup (pa_cons ha (pa_cons hb (pa_cons hc pa_nil h3) h2) h1)) fun σ H Q ⟨γ, S0, S, t, E, hf, q⟩ => by
  obtain ⟨x, y, e1, e2, e3⟩ := bind2 hf
  obtain ⟨z, e4, e5⟩ := bind1 e3
  cases e5
  refine ⟨γ, S0, S, x, E, e1, fun v H1 s1 r1 => ⟨γ, S0, S, y, E.same s1, e2, fun w H2 s2 r2 => ⟨γ, S0, S, z, (E.same s1).same s2, e4, fun u H3 s3 r3 => ⟨by show 3 ≤ sizeLine; decide, fun p hp => ?_⟩⟩⟩⟩
  have s23 := s2.trans s3
  have s13 := s1.trans s23
  exact q _ _ (s13.trans (same_new hp)) (rp_newT (E.same s13).dT hp ⟨v, [w, u], rfl, Rp.mv (.same s23) _ v r1, w, [u], rfl, Rp.mv (.same s3) _ w r2, .one r3⟩)
theorem pv_tup4 {x1} (ha : PV X sl .a a fa) (hb : PV X sl .a b fb) (hc : PV X sl .a c fc) (hd : PV X sl .a d fd) (h1 : starEach [a, b, c, d] X.env = (false, eval a X.env) :: starEach [b, c, d] X.env := by rfl) (h2 : starEach [b, c, d] X.env = (false, eval b X.env) :: starEach [c, d] X.env := by rfl) (h3 : starEach [c, d] X.env = (false, eval c X.env) :: starEach [d] X.env := by rfl) (h4 : starEach [d] X.env = (false, eval d X.env) :: starEach [] X.env := by rfl) :
    PV X sl .a (.Tuple [a, b, c, d] x1 pos) (fun s => (fa s).bind fun x => (fb s).bind fun y => (fc s).bind fun z => (fd s).bind fun w => some (T4.mk x y z w)) := PE.imp (pe_tup (pa_cons ha (pa_cons hb (pa_cons hc (pa_cons hd pa_nil h4) h3) h2) h1)) fun σ H Q ⟨γ, S0, S, t, E, hf, q⟩ => by
  obtain ⟨x, y, e1, e2, e3⟩ := bind2 hf
  obtain ⟨z, z', e4, e5, e6⟩ := bind2 e3
  cases e6
  refine ⟨γ, S0, S, x, E, e1, fun v H1 s1 r1 => ⟨γ, S0, S, y, E.same s1, e2, fun w H2 s2 r2 => ⟨γ, S0, S, z, (E.same s1).same s2, e4, fun u H3 s3 r3 => ⟨γ, S0, S, z', ((E.same s1).same s2).same s3, e5, fun u' H4 s4 r4 => ⟨by show 4 ≤ sizeLine; decide, fun p hp => ?_⟩⟩⟩⟩⟩
  have s34 := s3.trans s4
  have s24 := s2.trans s34
  have s14 := s1.trans s24
  exact q _ _ (s14.trans (same_new hp)) (rp_newT (E.same s14).dT hp ⟨v, [w, u, u'], rfl, Rp.mv (.same s24) _ v r1, w, [u, u'], rfl, Rp.mv (.same s34) _ w r2, u, [u'], rfl, Rp.mv (.same s4) _ u r3, .one r4⟩)
end

/-! ### in -/
section
variable [Enc τ] [DecidableEq τ] [EqT τ]
def dIn (x : τ) (ys : List τ) : Option Bool := if EqT.ok x = true ∧ EqT.ok ys = true then some (decide (x ∈ ys)) else none
def dNin (x : τ) (ys : List τ) : Option Bool := if EqT.ok x = true ∧ EqT.ok ys = true then some (!decide (x ∈ ys)) else none
theorem any_in (x : τ) : ∀ ys : List τ, ((ys.map enc).any fun z => PyData.eqv z (enc x)) = decide (x ∈ ys)
  | [] => by simp
  | y :: ys => by
    rw [List.map_cons, List.any_cons, EqT.eqv, any_in x ys]
    by_cases h : x = y
    · subst h; simp
    · simp [h, Ne.symm h]
theorem dp_list {K : PySem.W.Frag} {H : Hp} {T : Ad} {t : List τ} {v : V} (h : Rb K H T (enc t) v) (ho : EqT.ok t = true) : Dp K H v (.list (t.map enc)) := h.dp (PyData.hasDict_of_canLay _ (EqT.can t ho))
def c_in (hu : X.A.units + 65 < cLine) (hd : EqT.dep τ + 1 ≤ 64 := by decide) : Cmp X .In τ (List τ) (fun x y => dIn x y) := ⟨_, op_inD hu, fun T H x y u w t Q hT r1 r2 e q => by
  obtain ⟨⟨h1, h2⟩, rfl⟩ := if_some e
  refine ⟨enc u, w.map enc, r1.dp (PyData.hasDict_of_canLay _ (EqT.can u h1)), dp_list r2 h2, shaped_of h1 (by omega), shaped_of (τ := List τ) h2 hd, q _ H (Same.refl H) ?_⟩
  rw [any_in]; rfl⟩
def c_nin (hu : X.A.units + 65 < cLine) (hd : EqT.dep τ + 1 ≤ 64 := by decide) : Cmp X .NotIn τ (List τ) (fun x y => dNin x y) := ⟨_, op_notInD hu, fun T H x y u w t Q hT r1 r2 e q => by
  obtain ⟨⟨h1, h2⟩, rfl⟩ := if_some e
  refine ⟨enc u, w.map enc, r1.dp (PyData.hasDict_of_canLay _ (EqT.can u h1)), dp_list r2 h2, shaped_of h1 (by omega), shaped_of (τ := List τ) h2 hd, q _ H (Same.refl H) ?_⟩
  rw [any_in]; rfl⟩
end

theorem rpa_ints {K : PySem.W.Frag} {H : Hp} {T : Ad} : ∀ xs : List Int, RpA K H T (xs.map enc) (xs.map V.int)
  | [] => rfl
  | x :: xs => ⟨.int x, _, rfl, rfl, rpa_ints xs⟩
/-! ### known functions of ints -/
section
variable {p : Pos} {fa fb : Γ → Option Int}
theorem star1 (h : starEach [a] X.env = [(false, eval a X.env)]) : starEach [a] X.env = (false, eval a X.env) :: starEach [] X.env := h
theorem pv_abs (hg : Gl X "abs") (hm : X.mg "abs" = none) (ha : PV X sl .b a fa) (he : starEach [a] X.env = (false, eval a X.env) :: starEach [] X.env := by rfl) :
    PV X sl .a (.Call (.Name "abs" p) [a] [] pos) (fun s => (fa s).bind fun x => some (x.natAbs : Int)) :=
  pv_c1 (fun h => pe_callB call_abs hg hm (by decide +kernel) (pa_cons h pa_nil he) (he := he)) (fun T H x u t Q hT r e q => by
    cases e
    exact ⟨u, by rw [rb_i r], q _ H (Same.refl H) (by show V.int _ = V.int _; congr 1; split <;> omega)⟩) ha
theorem pv_int1 (hg : Gl X "int") (hm : X.mg "int" = none) (ha : PV X sl .b a fa) (he : starEach [a] X.env = (false, eval a X.env) :: starEach [] X.env := by rfl) :
    PV X sl .a (.Call (.Name "int" p) [a] [] pos) (fun s => (fa s).bind fun x => some x) :=
  pv_c1 (fun h => pe_callTy call_int1 hg hm (by decide +kernel) (pa_cons h pa_nil he) (he := he)) (fun T H x u t Q hT r e q => by
    cases e
    exact .inl ⟨u, by rw [rb_i r], q _ H (Same.refl H) rfl⟩) ha
theorem pv_intB {fa : Γ → Option Bool} (hg : Gl X "int") (hm : X.mg "int" = none) (ha : PV X sl .b a fa) (he : starEach [a] X.env = (false, eval a X.env) :: starEach [] X.env := by rfl) :
    PV X sl .a (.Call (.Name "int" p) [a] [] pos) (fun s => (fa s).bind fun x => some (if x = true then (1 : Int) else 0)) :=
  pv_c1 (fun h => pe_callTy call_int1 hg hm (by decide +kernel) (pa_cons h pa_nil he) (he := he)) (fun T H x u t Q hT r e q => by
    cases e
    exact .inr ⟨u, by rw [rb_bool r], q _ H (Same.refl H) rfl⟩) ha
theorem pv_min2 (hg : Gl X "min") (hm : X.mg "min" = none) (ha : PV X sl .b a fa) (hb : PV X sl .b b fb) (he : starEach [a, b] X.env = (false, eval a X.env) :: starEach [b] X.env := by rfl) (he2 : starEach [b] X.env = (false, eval b X.env) :: starEach [] X.env := by rfl) (hpl : (backTo pos (starEach [b] X.env)).any (·.1) = false := by rfl) (hc : X.calm = true := by rfl) :
    PV X sl .a (.Call (.Name "min" p) [a, b] [] pos) (fun s => (fa s).bind fun x => (fb s).bind fun y => some (min x y)) :=
  pv_c2 (fun h1 h2 => pe_callB (call_min2 hc) hg hm (by decide +kernel) (pa_cons h1 (pa_cons h2 pa_nil he2) he) (he := he) (hpl := hpl)) (fun T H x y u w t Q hT r1 r2 e q => by
    cases e
    exact ⟨u, w, by rw [rb_i r1, rb_i r2], q _ H (Same.refl H) (by show V.int _ = V.int _; congr 1; split <;> omega)⟩) ha hb
theorem pv_max2 (hg : Gl X "max") (hm : X.mg "max" = none) (ha : PV X sl .b a fa) (hb : PV X sl .b b fb) (he : starEach [a, b] X.env = (false, eval a X.env) :: starEach [b] X.env := by rfl) (he2 : starEach [b] X.env = (false, eval b X.env) :: starEach [] X.env := by rfl) (hpl : (backTo pos (starEach [b] X.env)).any (·.1) = false := by rfl) (hc : X.calm = true := by rfl) :
    PV X sl .a (.Call (.Name "max" p) [a, b] [] pos) (fun s => (fa s).bind fun x => (fb s).bind fun y => some (max x y)) :=
  pv_c2 (fun h1 h2 => pe_callB (call_max2 hc) hg hm (by decide +kernel) (pa_cons h1 (pa_cons h2 pa_nil he2) he) (he := he) (hpl := hpl)) (fun T H x y u w t Q hT r1 r2 e q => by
    cases e
    exact ⟨u, w, by rw [rb_i r1, rb_i r2], q _ H (Same.refl H) (by show V.int _ = V.int _; congr 1; split <;> omega)⟩) ha hb
theorem pv_sum {fa : Γ → Option (List Int)} (hg : Gl X "sum") (hm : X.mg "sum" = none) (ha : PV X sl .b a fa) (he : starEach [a] X.env = (false, eval a X.env) :: starEach [] X.env := by rfl) (hc : X.calm = true := by rfl) :
    PV X sl .a (.Call (.Name "sum" p) [a] [] pos) (fun s => (fa s).bind fun x => some x.sum) :=
  pv_c1 (fun h => pe_callB (cr_sum hc) hg hm (by decide +kernel) (pa_cons h pa_nil he) (he := he)) (fun T H x u t Q hT r e q => by
    cases e
    obtain ⟨p, xs, rfl, h1, h2⟩ := rb_l r
    rw [rpa_int h2] at h1
    exact ⟨p, u, rfl, h1, q _ H (Same.refl H) rfl⟩) ha
theorem pv_any {fa : Γ → Option (List Bool)} (hg : Gl X "any") (hm : X.mg "any" = none) (ha : PV X sl .b a fa) (he : starEach [a] X.env = (false, eval a X.env) :: starEach [] X.env := by rfl) (hc : X.calm = true := by rfl) :
    PV X sl .a (.Call (.Name "any" p) [a] [] pos) (fun s => (fa s).bind fun x => some (x.any id)) :=
  pv_c1 (fun h => pe_callB (cr_any hc) hg hm (by decide +kernel) (pa_cons h pa_nil he) (he := he)) (fun T H x u t Q hT r e q => by
    cases e
    obtain ⟨p, xs, rfl, h1, h2⟩ := rb_l r
    rw [rpa_bool h2] at h1
    exact ⟨p, u, rfl, h1, q _ H (Same.refl H) rfl⟩) ha
theorem pv_all {fa : Γ → Option (List Bool)} (hg : Gl X "all") (hm : X.mg "all" = none) (ha : PV X sl .b a fa) (he : starEach [a] X.env = (false, eval a X.env) :: starEach [] X.env := by rfl) (hc : X.calm = true := by rfl) :
    PV X sl .a (.Call (.Name "all" p) [a] [] pos) (fun s => (fa s).bind fun x => some (x.all id)) :=
  pv_c1 (fun h => pe_callB (cr_all hc) hg hm (by decide +kernel) (pa_cons h pa_nil he) (he := he)) (fun T H x u t Q hT r e q => by
    cases e
    obtain ⟨p, xs, rfl, h1, h2⟩ := rb_l r
    rw [rpa_bool h2] at h1
    exact ⟨p, u, rfl, h1, q _ H (Same.refl H) rfl⟩) ha
/-- the least, the greatest of a list that is not empty -/
def least (x : List Int) : Option Int := match x with
  | [] => none
  | y :: ys => some (ys.foldl min y)
def most (x : List Int) : Option Int := match x with
  | [] => none
  | y :: ys => some (ys.foldl max y)
theorem foldl_min : ∀ (ys : List Int) (y m : Int), m ∈ y :: ys → (∀ z, z ∈ y :: ys → m ≤ z) → ys.foldl min y = m
  | [], y, m, h1, h2 => by simp at h1; simp [h1]
  | z :: ys, y, m, h1, h2 => by
    rw [List.foldl_cons]
    have hy := h2 y List.mem_cons_self
    have hz := h2 z (List.mem_cons_of_mem _ List.mem_cons_self)
    refine foldl_min ys (min y z) m ?_ fun w hw => ?_
    · rcases List.mem_cons.mp h1 with rfl | h1
      · rw [show min m z = m by omega]; exact List.mem_cons_self
      · rcases List.mem_cons.mp h1 with rfl | h1
        · rw [show min y m = m by omega]; exact List.mem_cons_self
        · exact List.mem_cons_of_mem _ h1
    · rcases List.mem_cons.mp hw with rfl | hw
      · omega
      · exact h2 w (List.mem_cons_of_mem _ (List.mem_cons_of_mem _ hw))
theorem foldl_max : ∀ (ys : List Int) (y m : Int), m ∈ y :: ys → (∀ z, z ∈ y :: ys → z ≤ m) → ys.foldl max y = m
  | [], y, m, h1, h2 => by simp at h1; simp [h1]
  | z :: ys, y, m, h1, h2 => by
    rw [List.foldl_cons]
    have hy := h2 y List.mem_cons_self
    have hz := h2 z (List.mem_cons_of_mem _ List.mem_cons_self)
    refine foldl_max ys (max y z) m ?_ fun w hw => ?_
    · rcases List.mem_cons.mp h1 with rfl | h1
      · rw [show max m z = m by omega]; exact List.mem_cons_self
      · rcases List.mem_cons.mp h1 with rfl | h1
        · rw [show max y m = m by omega]; exact List.mem_cons_self
        · exact List.mem_cons_of_mem _ h1
    · rcases List.mem_cons.mp hw with rfl | hw
      · omega
      · exact h2 w (List.mem_cons_of_mem _ (List.mem_cons_of_mem _ hw))
theorem pv_min1 {fa : Γ → Option (List Int)} (hg : Gl X "min") (hm : X.mg "min" = none) (ha : PV X sl .b a fa) (he : starEach [a] X.env = (false, eval a X.env) :: starEach [] X.env := by rfl) (hc : X.calm = true := by rfl) :
    PV X sl .a (.Call (.Name "min" p) [a] [] pos) (fun s => (fa s).bind fun x => least x) :=
  pv_c1 (fun h => pe_callB (cr_min hc) hg hm (by decide +kernel) (pa_cons h pa_nil he) (he := he)) (fun T H x u t Q hT r e q => by
    obtain ⟨p, xs, rfl, h1, h2⟩ := rb_l r
    rw [rpa_int h2] at h1
    cases u with
    | nil => cases e
    | cons y ys =>
      cases e
      exact ⟨p, _, rfl, h1, by simp, fun m hm hle => q _ H (Same.refl H) (by rw [foldl_min ys y m hm hle]; rfl)⟩) ha
theorem pv_max1 {fa : Γ → Option (List Int)} (hg : Gl X "max") (hm : X.mg "max" = none) (ha : PV X sl .b a fa) (he : starEach [a] X.env = (false, eval a X.env) :: starEach [] X.env := by rfl) (hc : X.calm = true := by rfl) :
    PV X sl .a (.Call (.Name "max" p) [a] [] pos) (fun s => (fa s).bind fun x => most x) :=
  pv_c1 (fun h => pe_callB (cr_max hc) hg hm (by decide +kernel) (pa_cons h pa_nil he) (he := he)) (fun T H x u t Q hT r e q => by
    obtain ⟨p, xs, rfl, h1, h2⟩ := rb_l r
    rw [rpa_int h2] at h1
    cases u with
    | nil => cases e
    | cons y ys =>
      cases e
      exact ⟨p, _, rfl, h1, by simp, fun m hm hle => q _ H (Same.refl H) (by rw [foldl_max ys y m hm hle]; rfl)⟩) ha
theorem pv_list [Enc τ] {fa : Γ → Option (List τ)} (hg : Gl X "list") (hm : X.mg "list" = none) (ha : PV X sl .b a fa) (he : starEach [a] X.env = (false, eval a X.env) :: starEach [] X.env := by rfl) :
    PV X sl .f (.Call (.Name "list" p) [a] [] pos) (fun s => (fa s).bind fun x => some x) :=
  pv_c1 (fun h => pe_callTy call_list_of hg hm (by decide +kernel) (pa_cons h pa_nil he) (he := he)) (fun T H x u t Q hT r e q => by
    cases e
    obtain ⟨p, xs, rfl, h1, h2⟩ := rb_l r
    exact ⟨p, xs, rfl, .inl h1, fun l hl => q _ _ (same_new hl) (fr_new hT hl h2)⟩) ha
theorem pv_lenS {fa : Γ → Option Tx} (hg : Gl X "len") (hm : X.mg "len" = none) (ha : PV X sl .b a fa) (he : starEach [a] X.env = (false, eval a X.env) :: starEach [] X.env := by rfl) :
    PV X sl .a (.Call (.Name "len" p) [a] [] pos) (fun s => (fa s).bind fun x => if x.cs.length ≤ sizeLine then some (x.cs.length : Int) else none) :=
  pv_c1 (fun h => pe_callB call_len_str hg hm PySem.boot_len (pa_cons h pa_nil he) (he := he)) (fun T H x u t Q hT r e q => by
    obtain ⟨hz, rfl⟩ := if_some e
    exact ⟨⟨u.cs.toArray⟩, by rw [rb_t r], hz, q _ H (Same.refl H) rfl⟩) ha
/-- sorted, ints -/
def srt (x : List Int) : List Int := x.mergeSort (fun a b => decide (a ≤ b))
theorem srt_uniq {xs ys : List Int} (p : ys.Perm xs) (s : ys.Pairwise (· ≤ ·)) : ys = srt xs := by
  have p2 : (srt xs).Perm xs := List.mergeSort_perm _ _
  have s2 : (srt xs).Pairwise (· ≤ ·) := by
    have h := List.pairwise_mergeSort (le := fun a b : Int => decide (a ≤ b)) (by intro a b c h1 h2; simp at *; omega) (by intro a b; simp; omega) xs
    exact h.imp (by intro a b h; simpa using h)
  exact (p.trans p2.symm).eq_of_pairwise (fun a b _ _ h1 h2 => by omega) s s2
theorem pv_sorted {fa : Γ → Option (List Int)} (hg : Gl X "sorted") (hm : X.mg "sorted" = none) (ha : PV X sl .b a fa) (he : starEach [a] X.env = (false, eval a X.env) :: starEach [] X.env := by rfl) :
    PV X sl .f (.Call (.Name "sorted" p) [a] [] pos) (fun s => (fa s).bind fun x => some (srt x)) :=
  pv_c1 (fun h => pe_callB cr_sortedI hg hm (by decide +kernel) (pa_cons h pa_nil he) (he := he)) (fun T H x u t Q hT r e q => by
    cases e
    obtain ⟨p, xs, rfl, h1, h2⟩ := rb_l r
    have e2 := rpa_int h2
    rw [e2] at h1
    refine ⟨p, u, rfl, h1, fun ns' l hp hs hl => ?_⟩
    rw [srt_uniq hp hs]
    refine q _ _ (same_new hl) (fr_new hT hl ?_)
    exact rpa_ints _) ha
theorem pv_gcd (hg : Gl X "gcd") {u : Value} (hm : X.mg "gcd" = some (.builtin "math.gcd")) (ha : PV X sl .b a fa) (hb : PV X sl .b b fb) (h : ∀ {ta tb : TE}, PE X a ta → PE X b tb → PE X (.Call (.Name "gcd" p) [a, b] [] pos) (tCB (rGcd) (tCons ta (tCons tb tNil)))) :
    PV X sl .a (.Call (.Name "gcd" p) [a, b] [] pos) (fun s => (fa s).bind fun x => (fb s).bind fun y => some ((Nat.gcd x.natAbs y.natAbs : Nat) : Int)) :=
  pv_c2 h (fun T H x y u w t Q hT r1 r2 e q => by
    cases e
    exact ⟨u, w, by rw [rb_i r1, rb_i r2], q _ H (Same.refl H) rfl⟩) ha hb
end
end PL

/-! PL6: statements. -/
namespace PL
open PySem PySem.Spec L2
open Enc (enc)

inductive Out (Γ ρ : Type) where
  | nx (g : Γ)
  | rt (r : ρ)
  deriving DecidableEq
variable {Γ Γ' Γ'' Γb ρ τ α β γ' δ : Type} {X : Cx} {sl : Γ → Sl} {sl' : Γ' → Sl} {sl'' : Γ'' → Sl} {e a b c d : Expr} {es : List Expr} {k k1 k2 k3 : Kd} {pos : Pos}

/-- what a def hands back; H, S: ahead of the code -/
def FrR (K : PySem.W.Frag) (S0 S : Ad) (H H' : Hp) (d : PyData) (v : V) : Prop :=
  ∃ p, v = .ref p ∧ (H p ≠ none → S p) ∧ ¬ S0 p ∧ ((∃ ds xs, d = .list ds ∧ H' p = some (.lst xs) ∧ RpA K H' (wi S0 p) ds xs) ∨ ∃ kvs es, d = .dict kvs ∧ H' p = some (.dK es) ∧ RpK K H' (wi S0 p) kvs es)
def RetV (kr : Kd) (K : PySem.W.Frag) (S0 S : Ad) (H H' : Hp) (d : PyData) (v : V) : Prop :=
  Mv S H no H' ∧ match kr with
  | .f => FrR K S0 S H H' d v
  | _ => Rp K H' S0 d v
theorem Mv.no {S S' : Ad} {H H' : Hp} (m : Mv S H S' H') : Mv S H no H' := fun a o h n => ⟨(m a o h n).1, fun z => z⟩
theorem Mv.no_trans {S S' : Ad} {H H' H'' : Hp} (m : Mv S H S' H') (m' : Mv S' H' PL.no H'') : Mv S H PL.no H'' := m.trans m'
theorem RetV.back {kr : Kd} {K : PySem.W.Frag} {S0 S S' : Ad} {H H' H'' : Hp} {d : PyData} {v : V} (m : Mv S H S' H') (r : RetV kr K S0 S' H' H'' d v) : RetV kr K S0 S H H'' d v := by
  refine ⟨m.no_trans r.1, ?_⟩
  have r2 := r.2
  cases kr with
  | a => exact r2
  | b => exact r2
  | f =>
    obtain ⟨p, e, h1, h2, h3⟩ := r2
    refine ⟨p, e, fun hp => ?_, h2, h3⟩
    cases hq : H p with
    | none => exact absurd hq hp
    | some o =>
      by_cases hs : S p
      · exact hs
      · obtain ⟨e1, e2⟩ := m p o hq hs
        exact absurd (h1 (by rw [e1]; simp)) e2

section
variable [Enc ρ]
def Post (K : PySem.W.Frag) (S0 S : Ad) (H : Hp) (sl' : Γ' → Sl) (kr : Kd) (D : Ends) : Out Γ' ρ → Prop
  | .nx g => ∀ σ' H' S', EnvS K S0 S' H' (sl' g) σ' → Mv S H S' H' → D.nx σ' H'
  | .rt r => ∀ v H', RetV kr K S0 S H H' (enc r) v → D.rt v H'
def tS (K : PySem.W.Frag) (sl : Γ → Sl) (sl' : Γ' → Sl) (kr : Kd) (f : Γ → Option (Out Γ' ρ)) : TS := fun D σ H =>
  ∃ (g : Γ) (S0 S : Ad) (o : Out Γ' ρ), EnvS K S0 S H (sl g) σ ∧ f g = some o ∧ Post K S0 S H sl' kr D o
def SV (X : Cx) (sl : Γ → Sl) (sl' : Γ' → Sl) (kr : Kd) (st : Stmt) (f : Γ → Option (Out Γ' ρ)) : Prop := PS X st (tS X.K sl sl' kr f)
def BV (X : Cx) (sl : Γ → Sl) (sl' : Γ' → Sl) (kr : Kd) (st : List Stmt) (f : Γ → Option (Out Γ' ρ)) : Prop := PSs X st (tS X.K sl sl' kr f)
def seqO (x : Option (Out Γ ρ)) (g : Γ → Option (Out Γ' ρ)) : Option (Out Γ' ρ) := x.bind fun o => match o with
  | .nx s => g s
  | .rt r => some (.rt r)
theorem Post.back {K : PySem.W.Frag} {S0 S S' : Ad} {H H' : Hp} {sl' : Γ' → Sl} {kr : Kd} {D : Ends} {o : Out Γ' ρ} (m : Mv S H S' H') (p : Post K S0 S H sl' kr D o) : Post K S0 S' H' sl' kr D o := by
  cases o with
  | nx g => exact fun σ' H'' S'' E m' => p σ' H'' S'' E (m.trans m')
  | rt r => exact fun v H'' q => p v H'' (q.back m)

/-! ### weakening -/
inductive Wk : Sl → Sl → Prop
  | nil : Wk [] []
  | s {x : Option (Mo × PyData)} {l l' : Sl} : Wk l l' → Wk (x :: l) (x :: l')
  | d {x : Option (Mo × PyData)} {l l' : Sl} : Wk l l' → Wk (x :: l) (none :: l')
  | sh {x : PyData} {l l' : Sl} : Wk l l' → Wk (some (.o, x) :: l) (some (.a, x) :: l')
theorem Wk.len {l l' : Sl} (w : Wk l l') : l'.length = l.length := by
  induction w with
  | nil => rfl
  | s _ ih => simp [ih]
  | d _ ih => simp [ih]
  | sh _ ih => simp [ih]
theorem Wk.at_ {l l' : Sl} (w : Wk l l') : ∀ {i : Nat} {m : Mo} {x : PyData}, l'[i]? = some (some (m, x)) → l[i]? = some (some (m, x)) ∨ (m = .a ∧ l[i]? = some (some (.o, x))) := by
  induction w with
  | nil => intro i m x h; simp at h
  | s _ ih =>
    intro i m x h
    cases i with
    | zero => exact .inl h
    | succ i => exact ih h
  | d _ ih =>
    intro i m x h
    cases i with
    | zero => simp at h
    | succ i => exact ih h
  | sh _ ih =>
    intro i m x h
    cases i with
    | zero =>
      have h : some (some (Mo.a, _)) = some (some (m, x)) := h
      cases h
      exact .inr ⟨rfl, rfl⟩
    | succ i => exact ih h
theorem Wk.refl : ∀ l : Sl, Wk l l
  | [] => .nil
  | _ :: l => .s (Wk.refl l)
theorem EnvS.wk {K : PySem.W.Frag} {S0 S : Ad} {H : Hp} {l l' : Sl} {σ : L2.St} (E : EnvS K S0 S H l σ) (w : Wk l l') : ∃ S', Mv S H S' H ∧ EnvS K S0 S' H l' σ := by
  refine ⟨fun a => S a ∧ ¬ ∃ (i : Nat) (d : PyData), l'[i]? = some (some (.a, d)) ∧ l[i]? = some (some (.o, d)) ∧ σ[i]? = some (some (.ref a)), .less fun a h => h.1, ?_⟩
  refine ⟨w.len.trans E.len, fun a h => E.dS a h.1, E.d0, fun a h => E.ap a h.1, fun i m d h => ?_, fun i j d e v hij hi hj hv => ?_⟩
  · have m0 : Mv S H (fun a => S a ∧ ¬ ∃ (i : Nat) (d : PyData), l'[i]? = some (some (.a, d)) ∧ l[i]? = some (some (.o, d)) ∧ σ[i]? = some (some (.ref a))) H := .less fun a h => h.1
    rcases w.at_ h with h1 | ⟨rfl, h1⟩
    · obtain ⟨v, hv, q⟩ := E.at_ i m d h1
      refine ⟨v, hv, ?_⟩
      cases m with
      | a => exact Rp.mv m0.un _ _ q
      | b => exact Rbs.mv m0 q
      | o =>
        obtain ⟨a, rfl, h2, h3⟩ := q
        refine ⟨a, rfl, ⟨h2, ?_⟩, ?_⟩
        · rintro ⟨j, d', e1, e2, e3⟩
          by_cases hij : i = j
          · subst hij
            rw [h] at e1
            cases e1
          · exact E.one i j d d' _ hij h1 e2 hv e3
        · rcases h3 with ⟨ds, xs, e1, e2, e3⟩ | ⟨ds, xs, e1, e2, e3⟩
          · exact .inl ⟨ds, xs, e1, e2, e3.mv m0.un⟩
          · exact .inr ⟨ds, xs, e1, e2, e3.mv m0.un⟩
    · obtain ⟨v, hv, a, rfl, h2, h3⟩ := E.at_ i _ d h1
      refine ⟨_, hv, ?_⟩
      have n1 : ¬ un (fun a => S a ∧ ¬ ∃ (i : Nat) (d : PyData), l'[i]? = some (some (.a, d)) ∧ l[i]? = some (some (.o, d)) ∧ σ[i]? = some (some (.ref a))) S0 a := by
        rintro (z | z)
        · exact z.2 ⟨i, d, h, h1, hv⟩
        · exact E.ap a h2 z
      rcases h3 with ⟨ds, xs, rfl, e2, e3⟩ | ⟨ds, xs, rfl, e2, e3⟩
      · exact ⟨a, xs, rfl, .inl ⟨.inl e2, n1⟩, e3.mv m0.un⟩
      · exact ⟨a, xs, rfl, ⟨.inl e2, n1⟩, e3.mv m0.un⟩
  · have oo : ∀ {i : Nat} {d : PyData}, l'[i]? = some (some (.o, d)) → l[i]? = some (some (.o, d)) := fun h => by
      rcases w.at_ h with h1 | ⟨e, _⟩
      · exact h1
      · cases e
    exact E.one i j d e v hij (oo hi) (oo hj) hv

/-! ### blocks -/
variable {kr : Kd} {st : Stmt} {sts sts2 : List Stmt}
theorem bv_nil {h : Γ → Γ'} (w : ∀ g, Wk (sl g) (sl' (h g))) : BV (ρ := ρ) X sl sl' kr [] (fun g => some (.nx (h g))) := PSs.imp pss_nil fun D σ H ⟨g, S0, S, o, E, hf, p⟩ => by
  cases hf
  obtain ⟨S', m, E'⟩ := E.wk (w g)
  exact p σ H S' E' m
theorem bv_wk {h : Γ → Γ''} {f : Γ'' → Option (Out Γ' ρ)} (w : ∀ g, Wk (sl g) (sl'' (h g))) (hb : BV X sl'' sl' kr sts f) : BV X sl sl' kr sts (fun g => f (h g)) := PSs.imp hb fun D σ H ⟨g, S0, S, o, E, hf, p⟩ => by
  obtain ⟨S', m, E'⟩ := E.wk (w g)
  exact ⟨h g, S0, S', o, E', hf, p.back m⟩
theorem bv_cons {f : Γ → Option (Out Γ'' ρ)} {g : Γ'' → Option (Out Γ' ρ)} (h1 : SV X sl sl'' kr st f) (h2 : BV X sl'' sl' kr sts g) : BV X sl sl' kr (st :: sts) (fun s => seqO (f s) g) := PSs.imp (pss_cons h1 h2) fun D σ H ⟨γ, S0, S, o, E, hf, p⟩ => by
  obtain ⟨o1, e1, e2⟩ := bind1 hf
  refine ⟨γ, S0, S, o1, E, e1, ?_⟩
  cases o1 with
  | nx g1 => exact fun σ' H' S' E' m => ⟨g1, S0, S', o, E', e2, p.back m⟩
  | rt r =>
    cases e2
    exact p
theorem BV.eq {f f' : Γ → Option (Out Γ' ρ)} (h : BV X sl sl' kr sts f) (h' : f' = f) : BV X sl sl' kr sts f' := h' ▸ h

/-! ### assignments -/
theorem set_get {l : List α} {i j : Nat} {x y : α} (h : (l.set i x)[j]? = some y) : (i = j ∧ x = y ∧ j < l.length) ∨ (i ≠ j ∧ l[j]? = some y) := by
  by_cases hij : i = j
  · subst hij
    by_cases hl : i < l.length
    · rw [List.getElem?_set_self hl] at h
      exact .inl ⟨rfl, Option.some.inj h, hl⟩
    · rw [List.getElem?_eq_none (by simpa using hl)] at h
      cases h
  · rw [List.getElem?_set_ne hij] at h
    exact .inr ⟨hij, h⟩
theorem EnvS.seta {K : PySem.W.Frag} {S0 S : Ad} {H : Hp} {l : Sl} {σ : L2.St} {i : Nat} {d : PyData} {v : V} (E : EnvS K S0 S H l σ) (r : Rp K H (un S S0) d v) : EnvS K S0 S H (l.set i (some (.a, d))) (σ.set i (some v)) := by
  refine ⟨by simp [E.len], E.dS, E.d0, E.ap, fun j m e h => ?_, fun j j' e e' w hij hj hj' hv => ?_⟩
  · rcases set_get h with ⟨rfl, e1, hl⟩ | ⟨hne, h⟩
    · cases e1
      exact ⟨v, by rw [List.getElem?_set_self (by rw [← E.len]; exact hl)], r⟩
    · obtain ⟨w, h1, h2⟩ := E.at_ j m e h
      exact ⟨w, by rw [List.getElem?_set_ne hne]; exact h1, h2⟩
  · rcases set_get hj with ⟨_, e1, _⟩ | ⟨hne, hj⟩
    · cases e1
    · rcases set_get hj' with ⟨_, e1, _⟩ | ⟨hne', hj'⟩
      · cases e1
      · rw [List.getElem?_set_ne hne] at hv
        rw [List.getElem?_set_ne hne']
        exact E.one j j' e e' w hij hj hj' hv
/-- a new object is owned -/
theorem EnvS.seto' {K : PySem.W.Frag} {S0 S : Ad} {H H' : Hp} {l : Sl} {σ : L2.St} {i : Nat} {d : PyData} {v : V} (E : EnvS K S0 S H l σ) (s : Same H H') (r : Fr K H H' (un S S0) d v) : ∃ p, v = .ref p ∧ Mv S H (wi S p) H' ∧ EnvS K S0 (wi S p) H' (l.set i (some (.o, d))) (σ.set i (some v)) := by
  obtain ⟨p, rfl, hp, r⟩ := r
  have nS : ¬ S p := fun z => E.dS p z hp
  have n0 : ¬ S0 p := fun z => E.d0 p z hp
  have hp' : H' p ≠ none := by
    rcases r with ⟨_, _, _, e, _⟩ | ⟨_, _, _, e, _⟩ <;> rw [e] <;> simp
  have mv : Mv S H (wi S p) H' := fun a o h n => ⟨s a o h, fun z => z.elim n (ne_of_none h hp)⟩
  have hun : ∀ a, un (wi S p) S0 a → wi (un S S0) p a := fun a z => by
    rcases z with (z | z) | z
    · exact .inl (.inl z)
    · exact .inr z
    · exact .inl (.inr z)
  refine ⟨p, rfl, mv, by simp [E.len], fun a h => ?_, fun a h => nn_same s (E.d0 a h), fun a h => ?_, fun j m e h => ?_, fun j j' e e' w hij hj hj' hv => ?_⟩
  · rcases h with h | rfl
    · exact nn_same s (E.dS a h)
    · exact hp'
  · rcases h with h | rfl
    · exact E.ap a h
    · exact n0
  · rcases set_get h with ⟨rfl, e1, hl⟩ | ⟨hne, h⟩
    · cases e1
      refine ⟨_, by rw [List.getElem?_set_self (by rw [← E.len]; exact hl)], p, rfl, .inr rfl, ?_⟩
      rcases r with ⟨ds, xs, e1, e2, e3⟩ | ⟨ds, xs, e1, e2, e3⟩
      · exact .inl ⟨ds, xs, e1, e2, e3.mv (.less hun)⟩
      · exact .inr ⟨ds, xs, e1, e2, e3.mv (.less hun)⟩
    · obtain ⟨w, h1, h2⟩ := E.at_ j m e h
      refine ⟨w, by rw [List.getElem?_set_ne hne]; exact h1, ?_⟩
      cases m with
      | a => exact Rp.mv mv.un _ _ h2
      | b => exact Rbs.mv mv h2
      | o =>
        obtain ⟨a, rfl, h2, h3⟩ := h2
        refine ⟨a, rfl, .inl h2, ?_⟩
        rcases h3 with ⟨ds, xs, e1, e2, e3⟩ | ⟨ds, xs, e1, e2, e3⟩
        · exact .inl ⟨ds, xs, e1, s _ _ e2, e3.mv mv.un⟩
        · exact .inr ⟨ds, xs, e1, s _ _ e2, e3.mv mv.un⟩
  · have other : ∀ {k : Nat} {x : PyData} {u : V}, l[k]? = some (some (.o, x)) → σ[k]? = some (some u) → u ≠ .ref p := fun {k x u} h1 h2 e => by
      obtain ⟨w, h3, a, e1, h4, _⟩ := E.at_ k _ x h1
      rw [h2] at h3
      cases h3
      rw [e] at e1
      cases e1
      exact nS h4
    rcases set_get hj with ⟨rfl, e1, hl⟩ | ⟨hne, hj⟩
    · rcases set_get hj' with ⟨rfl, _, _⟩ | ⟨hne', hj'⟩
      · exact absurd rfl hij
      · rw [List.getElem?_set_self (by rw [← E.len]; exact hl)] at hv
        cases hv
        rw [List.getElem?_set_ne hne']
        exact fun q => other hj' q rfl
    · rw [List.getElem?_set_ne hne] at hv
      rcases set_get hj' with ⟨rfl, e1, hl⟩ | ⟨hne', hj'⟩
      · rw [List.getElem?_set_self (by rw [← E.len]; exact hl)]
        intro q
        cases q
        exact other hj hv rfl
      · rw [List.getElem?_set_ne hne']
        exact E.one j j' e e' w hij hj hj' hv
theorem EnvS.seto {K : PySem.W.Frag} {S0 S : Ad} {H H' : Hp} {l : Sl} {σ : L2.St} {i : Nat} {d : PyData} {v : V} (E : EnvS K S0 S H l σ) (s : Same H H') (r : Fr K H H' (un S S0) d v) : ∃ S', Mv S H S' H' ∧ EnvS K S0 S' H' (l.set i (some (.o, d))) (σ.set i (some v)) := by
  obtain ⟨p, _, h1, h2⟩ := E.seto' (i := i) s r
  exact ⟨_, h1, h2⟩
section
variable [Enc τ] {f : Γ → Option τ} {i : Nat} {x : Str} {p' : Pos}
theorem sv_set (set : Γ → τ → Γ') (h : ∀ g t, sl' (set g t) = (sl g).set i (some (.a, enc t))) (hN : X.N.Nodup) (he : PV X sl .a e f) (hi : X.N[i]? = some x := by rfl) (hx : Loc X.env.scope x := by first | exact .inl rfl | exact .inr rfl)
    (hs : swapsWith e (some (.Name x p')) pos.line X.env = pure false := by rfl) (hf : X.fn x = true ∨ X.env.scope.names.lookup x = some .local := by first | exact .inl rfl | exact .inr rfl) :
    SV (ρ := ρ) X sl sl' kr (.Assign [.Name x p'] e pos) (fun g => (f g).bind fun t => some (.nx (set g t))) := PS.imp (ps_set (i := i) hN hi hx he hs hf) fun D σ H ⟨γ, S0, S, o, E, hf, p⟩ => by
  obtain ⟨t, e1, e2⟩ := bind1 hf
  cases e2
  refine ⟨γ, S0, S, t, E, e1, fun v H' s r => ?_⟩
  refine p _ _ S ?_ (.same s)
  rw [h]
  exact (E.same s).seta r
theorem sv_own (set : Γ → τ → Γ') (h : ∀ g t, sl' (set g t) = (sl g).set i (some (.o, enc t))) (hN : X.N.Nodup) (he : PV X sl .f e f) (hi : X.N[i]? = some x := by rfl) (hx : Loc X.env.scope x := by first | exact .inl rfl | exact .inr rfl)
    (hs : swapsWith e (some (.Name x p')) pos.line X.env = pure false := by rfl) (hf : X.fn x = true ∨ X.env.scope.names.lookup x = some .local := by first | exact .inl rfl | exact .inr rfl) :
    SV (ρ := ρ) X sl sl' kr (.Assign [.Name x p'] e pos) (fun g => (f g).bind fun t => some (.nx (set g t))) := PS.imp (ps_set (i := i) hN hi hx he hs hf) fun D σ H ⟨γ, S0, S, o, E, hf, p⟩ => by
  obtain ⟨t, e1, e2⟩ := bind1 hf
  cases e2
  refine ⟨γ, S0, S, t, E, e1, fun v H' s r => ?_⟩
  obtain ⟨S', m, E'⟩ := E.seto (i := i) s r
  refine p _ _ S' ?_ m
  rw [h]
  exact E'
end
/-- an expression's value dropped -/
theorem sv_expr [Enc τ] {f : Γ → Option τ} (he : PV X sl k e f) (hs : swapsWith e none pos.line X.env = pure false := by rfl) : SV (ρ := ρ) X sl sl kr (.Expr e pos) (fun g => (f g).bind fun _ => some (.nx g)) := PS.imp (ps_expr he hs) fun D σ H ⟨γ, S0, S, o, E, hf, p⟩ => by
  obtain ⟨t, e1, e2⟩ := bind1 hf
  cases e2
  exact ⟨γ, S0, S, t, E, e1, fun v H' s r => p _ _ S (E.same s) (.same s)⟩
theorem sv_pass : SV (ρ := ρ) X sl sl kr (.Pass pos) (fun g => some (.nx g)) := PS.imp ps_pass fun D σ H ⟨γ, S0, S, o, E, hf, p⟩ => by
  cases hf
  exact p _ _ S E .refl
/-- code that is not come to -/
theorem sv_never : SV (ρ := ρ) X sl sl' kr st (fun _ => none) := PS.imp ps_never fun D σ H ⟨γ, S0, S, o, E, hf, p⟩ => by cases hf

/-! ### return -/
theorem sv_ret {f : Γ → Option ρ} (he : PV X sl .a e f) : SV (ρ := ρ) X sl sl' .a (.Return (some e) pos) (fun g => (f g).bind fun r => some (.rt r)) := PS.imp (ps_ret he) fun D σ H ⟨γ, S0, S, o, E, hf, p⟩ => by
  obtain ⟨t, e1, e2⟩ := bind1 hf
  cases e2
  exact ⟨γ, S0, S, t, E, e1, fun v H' s r => p v H' ⟨(Mv.same s).no, Rp.mv (.less fun a z => .inr z) _ _ r⟩⟩
theorem sv_retf {f : Γ → Option ρ} (he : PV X sl .f e f) : SV (ρ := ρ) X sl sl' .f (.Return (some e) pos) (fun g => (f g).bind fun r => some (.rt r)) := PS.imp (ps_ret he) fun D σ H ⟨γ, S0, S, o, E, hf, p⟩ => by
  obtain ⟨t, e1, e2⟩ := bind1 hf
  cases e2
  refine ⟨γ, S0, S, t, E, e1, fun v H' s r => p v H' ⟨(Mv.same s).no, ?_⟩⟩
  obtain ⟨q, rfl, hq, r⟩ := r
  have n0 : ¬ S0 q := fun z => E.d0 q z hq
  refine ⟨q, rfl, fun z => absurd hq z, n0, ?_⟩
  rcases r with ⟨ds, xs, e1, e2, e3⟩ | ⟨ds, xs, e1, e2, e3⟩
  · exact .inl ⟨ds, xs, e1, e2, e3.mv (.less fun a z => z.elim (fun z => .inl (.inr z)) .inr)⟩
  · exact .inr ⟨ds, xs, e1, e2, e3.mv (.less fun a z => z.elim (fun z => .inl (.inr z)) .inr)⟩
/-- an owned list handed back -/
theorem sv_reto {i : Nat} {x : Str} {p0 : Pos} (q : Γ → ρ) (h : ∀ g, (sl g)[i]? = some (some (.o, enc (q g)))) (hN : X.N[i]? = some x := by rfl)
    (hv : Vis X.env.scope x := by first | exact Or.inl rfl | exact Or.inr (Or.inl rfl) | exact Or.inr (Or.inr rfl)) (hd : (x == ("__debug__" : Str)) = false := by decide) (hcd : (x == ("__classdict__" : Str)) = false := by decide) :
    SV (ρ := ρ) X sl sl' .f (.Return (some (.Name x p0)) pos) (fun g => some (.rt (q g))) := PS.imp (ps_ret (pe_var (i := i) hN hv hd hcd)) fun D σ H ⟨γ, S0, S, o, E, hf, p⟩ => by
  cases hf
  obtain ⟨v, h1, a, rfl, h2, h3⟩ := E.at_ i _ _ (h γ)
  refine ⟨_, h1, p _ _ ⟨(Mv.refl (T := S)).no, a, rfl, fun _ => h2, E.ap a h2, ?_⟩⟩
  rcases h3 with ⟨ds, xs, e1, e2, e3⟩ | ⟨ds, xs, e1, e2, e3⟩
  · exact .inl ⟨ds, xs, e1, e2, e3.mv (.less fun b z => z.elim .inr fun z => .inl (z ▸ h2))⟩
  · exact .inr ⟨ds, xs, e1, e2, e3.mv (.less fun b z => z.elim .inr fun z => .inl (z ▸ h2))⟩

/-! ### if -/
theorem sv_if {c : Expr} {fc : Γ → Option Bool} {f g : Γ → Option (Out Γ' ρ)} (hc : PB X sl c fc) (ha : BV X sl sl' kr sts f) (hb : BV X sl sl' kr sts2 g) : SV X sl sl' kr (.If c sts sts2 pos) (fun s => (fc s).bind fun t => if t = true then f s else g s) :=
  PS.imp (ps_if hc ha hb) fun D σ H ⟨γ, S0, S, o, E, hf, p⟩ => by
    obtain ⟨t, e1, e2⟩ := bind1 hf
    refine ⟨γ, S0, S, t, E, e1, fun H' s => ?_⟩
    cases t with
    | true => exact ⟨γ, S0, S, o, E.same s, e2, p.back (.same s)⟩
    | false => exact ⟨γ, S0, S, o, E.same s, e2, p.back (.same s)⟩

/-! ### while -/
def whileO (c : Γ → Option Bool) (b : Γ → Option (Out Γ ρ)) : Nat → Γ → Option (Out Γ ρ)
  | 0, _ => none
  | n + 1, g => (c g).bind fun t => if t = true then seqO (b g) (whileO c b n) else some (.nx g)
theorem sv_while {c : Expr} (n : Nat) {fc : Γ → Option Bool} {f : Γ → Option (Out Γ ρ)} (hp : PassesOwn (model X.prog X.w) X.A X.env X.xe) (hc : PB X sl c fc) (hb : BV X sl sl kr sts f) : SV X sl sl kr (.While c sts [] pos) (whileO fc f n) :=
  PS.imp (ps_while hp hc hb) fun D σ H ⟨γ, S0, S, o, E, hf, p⟩ => by
    refine ⟨fun m σ1 H1 => ∃ g1 S1, EnvS X.K S0 S1 H1 (sl g1) σ1 ∧ whileO fc f m g1 = some o ∧ Post X.K S0 S1 H1 sl kr D o, ⟨n, γ, S, E, hf, p⟩, ?_⟩
    rintro m σ1 H1 ⟨g1, S1, E1, h1, p1⟩
    cases m with
    | zero => cases h1
    | succ m =>
      obtain ⟨t, e1, e2⟩ := bind1 h1
      refine ⟨g1, S0, S1, t, E1, e1, fun H2 s2 => ?_⟩
      have E2 := E1.same s2
      have p2 : Post X.K S0 S1 H2 sl kr D o := p1.back (.same s2)
      cases t with
      | false =>
        cases e2
        exact iteF (p2 σ1 H2 S1 E2 .refl)
      | true =>
        obtain ⟨o1, e3, e4⟩ := bind1 (show seqO (f g1) (whileO fc f m) = some o from e2)
        refine iteT ⟨fun σ' H' => ∃ g' S', EnvS X.K S0 S' H' (sl g') σ' ∧ whileO fc f m g' = some o ∧ Post X.K S0 S' H' sl kr D o, fun σ' H' q => ⟨m, Nat.lt_succ_self m, q⟩, g1, S0, S1, o1, E2, e3, ?_⟩
        cases o1 with
        | nx g' => exact fun σ' H' S' E' m' => ⟨g', S', E', e4, p2.back m'⟩
        | rt r =>
          cases e4
          exact p2
end
end PL

/-! PL7: stores, loops over things, comprehensions, defs. -/
namespace PL
open PySem PySem.Spec L2
open Enc (enc)

variable {Γ Γ' Γ'' Γb Γc ρ τ α β γ' δ ι : Type} {X : Cx} {sl : Γ → Sl} {sl' : Γ' → Sl} {sl'' : Γ'' → Sl} {slb : Γb → Sl} {slc : Γc → Sl} {e a b c d : Expr} {es : List Expr} {k k1 k2 k3 : Kd} {pos : Pos} {kr : Kd} {st : Stmt} {sts sts2 : List Stmt}

/-! ### an owned list changed -/
theorem EnvS.chg {K : PySem.W.Frag} {S0 S : Ad} {H : Hp} {l : Sl} {σ : L2.St} {i : Nat} {d d' : PyData} {a : Addr} {u : HO} (E : EnvS K S0 S H l σ) (hi : l[i]? = some (some (.o, d))) (hv : σ[i]? = some (some (.ref a))) (hS : S a)
    (new : Mv S H S (upd H a u) → Ow K (upd H a u) (un S S0) d' a) : Mv S H S (upd H a u) ∧ EnvS K S0 S (upd H a u) (l.set i (some (.o, d'))) σ := by
  have mv : Mv S H S (upd H a u) := fun b o h n => ⟨by rw [upd_ne fun z => n (by rw [z]; exact hS)]; exact h, n⟩
  have nn : ∀ b, H b ≠ none → upd H a u b ≠ none := fun b h => by
    by_cases hb : b = a
    · subst hb; rw [upd_same]; simp
    · rw [upd_ne hb]; exact h
  refine ⟨mv, by simp [E.len], fun b h => nn b (E.dS b h), fun b h => nn b (E.d0 b h), E.ap, fun j m e h => ?_, fun j j' e e' w hij hj hj' hw => ?_⟩
  · rcases set_get h with ⟨rfl, e1, hl⟩ | ⟨hne, h⟩
    · cases e1
      exact ⟨_, hv, a, rfl, hS, new mv⟩
    · obtain ⟨w, h1, h2⟩ := E.at_ j m e h
      refine ⟨w, h1, ?_⟩
      cases m with
      | a => exact Rp.mv mv.un _ _ h2
      | b => exact Rbs.mv mv h2
      | o =>
        obtain ⟨q, rfl, h2, h3⟩ := h2
        have hq : q ≠ a := fun z => E.one i j d e _ hne hi h hv (z ▸ h1)
        refine ⟨q, rfl, h2, ?_⟩
        rcases h3 with ⟨ds, xs, e1, e2, e3⟩ | ⟨ds, xs, e1, e2, e3⟩
        · exact .inl ⟨ds, xs, e1, by rw [upd_ne hq]; exact e2, e3.mv mv.un⟩
        · exact .inr ⟨ds, xs, e1, by rw [upd_ne hq]; exact e2, e3.mv mv.un⟩
  · have oo : ∀ {j : Nat} {e : PyData}, (l.set i (some (.o, d')))[j]? = some (some (.o, e)) → ∃ e', l[j]? = some (some (.o, e')) := fun h => by
      rcases set_get h with ⟨rfl, _, _⟩ | ⟨_, h⟩
      · exact ⟨_, hi⟩
      · exact ⟨_, h⟩
    obtain ⟨x, hx⟩ := oo hj
    obtain ⟨y, hy⟩ := oo hj'
    exact E.one j j' x y w hij hx hy hw
def push (l : List τ) (t : τ) : Option (List τ) := if l.length < sizeLine then some (l ++ [t]) else none
section
variable [Enc ρ] [Enc τ] {f : Γ → Option τ} {i : Nat} {x : Str} {p0 : Pos} {apos cpos : Pos}
/-- x.append(e), x owned -/
theorem sv_app (q : Γ → List τ) (set : Γ → List τ → Γ') (hq : ∀ g, (sl g)[i]? = some (some (.o, enc (q g)))) (h : ∀ g t, sl' (set g t) = (sl g).set i (some (.o, enc t))) (he : PV X sl .a e f) (hN : X.N[i]? = some x := by rfl)
    (hv : Vis X.env.scope x := by first | exact Or.inl rfl | exact Or.inr (Or.inl rfl) | exact Or.inr (Or.inr rfl)) (hd : (x == ("__debug__" : Str)) = false := by decide) (hcd : (x == ("__classdict__" : Str)) = false := by decide)
    (hbase : attributeBase (.Name x p0) "append" X.env (eval (.Name x p0) X.env) = eval (.Name x p0) X.env := by rfl)
    (hfew : ((backTo cpos (starEach [e] X.env)).all (fun x => !x.1) && (backToKw cpos (keywordEach [] X.env)).all (fun x => x.1.isSome)
      && decide ([e].length + ([] : List Keyword).length + (if ([] : List Keyword).isEmpty then 0 else 1) < 30)) = true := by rfl)
    (hline : (apos.endLine == cpos.line) = true := by rfl) (hs1 : starEach [e] X.env = (false, eval e X.env) :: starEach [] X.env := by rfl) (hplain : (backTo cpos (starEach [] X.env)).any (·.1) = false := by rfl)
    (hs : swapsWith (.Call (.Attribute (.Name x p0) "append" apos) [e] [] cpos) none pos.line X.env = pure false := by rfl) :
    SV (ρ := ρ) X sl sl' kr (.Expr (.Call (.Attribute (.Name x p0) "append" apos) [e] [] cpos) pos) (fun g => (f g).bind fun t => (push (q g) t).bind fun l => some (.nx (set g l))) :=
  PS.imp (ps_expr (pe_bm PySem.F.plainAttrs_list PySem.F.slot_list_append PySem.F.type_list_append mt_append (pe_var (i := i) hN hv hd hcd) (pa_cons he pa_nil hs1) hbase hfew hline hs1 hplain) hs) fun D σ H ⟨γ, S0, S, o, E, hf, p⟩ => by
    obtain ⟨t, e1, e2⟩ := bind1 hf
    obtain ⟨l, e3, e4⟩ := bind1 e2
    cases e4
    obtain ⟨hz, rfl⟩ := if_some e3
    obtain ⟨v, h1, a, rfl, h2, h3⟩ := E.at_ i _ _ (hq γ)
    rcases h3 with ⟨ds, xs, e1', e2', e3'⟩ | ⟨_, _, e1', _⟩
    · cases e1'
      refine ⟨_, h1, .inl ⟨rfl, xs, .inl (.inl e2')⟩, γ, S0, S, t, E, e1, fun y H1 s1 r1 => ?_⟩
      have E1 := E.same s1
      have hH1 := s1 _ _ e2'
      have hx : RpA X.K H1 (un S S0) ((q γ).map enc) xs := e3'.mv (.same s1)
      refine ⟨a, xs, y, rfl, rfl, hH1, by rw [map_len hx]; exact hz, ?_⟩
      obtain ⟨mv, E2⟩ := E1.chg (u := .lst (xs ++ [y])) (d' := enc (q γ ++ [t])) (hq γ) h1 h2 fun mv => .inl ⟨_, _, rfl, upd_same, by
        rw [List.map_append]
        exact (hx.mv mv.un).append (.one (Rp.mv mv.un _ _ r1))⟩
      refine p _ _ S ?_ ((Mv.same s1).trans mv)
      rw [h]
      exact E2
    · cases e1'
/-- x[j] = e, x an owned list -/
def lSet (l : List τ) (j : Int) (t : τ) : Option (List τ) := (ixN l.length j).bind fun n => some (l.set n t)
theorem sv_put {g : Γ → Option Int} {jx : Expr} {ipos : Pos} (q : Γ → List τ) (set : Γ → List τ → Γ') (hq : ∀ g, (sl g)[i]? = some (some (.o, enc (q g)))) (h : ∀ g t, sl' (set g t) = (sl g).set i (some (.o, enc t))) (he : PV X sl .a e f) (hj : PV X sl .b jx g) (hN : X.N[i]? = some x := by rfl)
    (hv : Vis X.env.scope x := by first | exact Or.inl rfl | exact Or.inr (Or.inl rfl) | exact Or.inr (Or.inr rfl)) (hd : (x == ("__debug__" : Str)) = false := by decide) (hcd : (x == ("__classdict__" : Str)) = false := by decide)
    (ha : ∀ v, assign (.Subscript (.Name x p0) jx ipos) X.env v = (do
      let ov ← holding [v] (eval (.Name x p0) X.env)
      let iv ← holding [v, ov] (eval jx X.env)
      standAt ipos
      holding [v, ov, iv] (setItem ov iv v)
      release [v, ov, iv] []) := by intro _; rfl)
    (hs : swapsWithSole [.Subscript (.Name x p0) jx ipos] e pos.line X.env = pure false := by rfl) (hw : swappedStores [.Subscript (.Name x p0) jx ipos] e X.env = pure none := by rfl)
    (h1 : (assignEach [.Subscript (.Name x p0) jx ipos] X.env).map (·.2) = [assign (.Subscript (.Name x p0) jx ipos) X.env] := by rfl) :
    SV (ρ := ρ) X sl sl' kr (.Assign [.Subscript (.Name x p0) jx ipos] e pos) (fun s => (f s).bind fun t => (g s).bind fun j => (lSet (q s) j t).bind fun l => some (.nx (set s l))) :=
  PS.imp (ps_asg he (pg_sub (pe_var (i := i) hN hv hd hcd) hj set_list ha) hs hw h1) fun D σ H ⟨γ, S0, S, o, E, hf, p⟩ => by
    obtain ⟨t, j, e1, e2, e3⟩ := bind2 hf
    obtain ⟨l, e4, e5⟩ := bind1 e3
    cases e5
    obtain ⟨n, e6, e7⟩ := bind1 e4
    cases e7
    refine ⟨γ, S0, S, t, E, e1, fun y H1 s1 r1 => ?_⟩
    have E1 := E.same s1
    obtain ⟨v, h1, a, rfl, h2, h3⟩ := E1.at_ i _ _ (hq γ)
    refine ⟨_, h1, γ, S0, S, j, E1, e2, fun z H2 s2 r2 => ?_⟩
    have E2 := E1.same s2
    rcases h3 with ⟨ds, xs, e1', e2', e3'⟩ | ⟨_, _, e1', _⟩
    · cases e1'
      have hx : RpA X.K H2 (un S S0) ((q γ).map enc) xs := e3'.mv (.same s2)
      refine ⟨a, xs, j, n, rfl, rb_i r2, s2 _ _ e2', by rw [map_len hx]; exact e6, ?_⟩
      obtain ⟨mv, E3⟩ := E2.chg (u := .lst (xs.set n y)) (d' := enc ((q γ).set n t)) (hq γ) h1 h2 fun mv => .inl ⟨_, _, rfl, upd_same, by
        rw [List.map_set]
        exact (hx.mv mv.un).set n (Rp.mv (Mv.trans (.same s2) mv.un) _ _ r1)⟩
      refine p _ _ S ?_ ((Mv.same (s1.trans s2)).trans mv)
      rw [h]
      exact E3
    · cases e1'
end

/-! ### targets -/
def wipeS (l : Sl) : List Nat → Sl
  | [] => l
  | v :: vs => (wipeS l vs).set v none
theorem wipeS_len (l : Sl) : ∀ vs : List Nat, (wipeS l vs).length = l.length
  | [] => rfl
  | v :: vs => by unfold wipeS; rw [List.length_set, wipeS_len l vs]
theorem wipeS_get {l : Sl} : ∀ {vs : List Nat} {i : Nat} {x : Mo × PyData}, (wipeS l vs)[i]? = some (some x) → l[i]? = some (some x) ∧ i ∉ vs
  | [], i, x, h => ⟨h, by simp⟩
  | v :: vs, i, x, h => by
    unfold wipeS at h
    rcases set_get h with ⟨_, e, _⟩ | ⟨hne, h⟩
    · cases e
    · obtain ⟨h1, h2⟩ := wipeS_get h
      exact ⟨h1, by simp only [List.mem_cons, not_or]; exact ⟨fun e => hne e.symm, h2⟩⟩
theorem wipe_in {σ : L2.St} {i : Nat} : ∀ {vs : List Nat}, i ∈ vs → i < σ.length → (wipe σ vs)[i]? = some none
  | v :: vs, h, hl => by
    unfold wipe
    by_cases hi : v = i
    · subst hi
      rw [List.getElem?_set_self (by rw [wipe_length]; exact hl)]
    · rw [List.getElem?_set_ne hi]
      rcases List.mem_cons.mp h with e | h
      · exact absurd e.symm hi
      · exact wipe_in h hl
theorem wipe_eq {σ σ' : L2.St} {vs : List Nat} (hl : σ'.length = σ.length) (h : ∀ i, i ∉ vs → σ'[i]? = σ[i]?) : wipe σ' vs = wipe σ vs := by
  apply List.ext_getElem?
  intro i
  by_cases hi : i ∈ vs
  · by_cases hn : i < σ.length
    · rw [wipe_in hi hn, wipe_in hi (by rw [hl]; exact hn)]
    · rw [List.getElem?_eq_none (by rw [wipe_length]; omega), List.getElem?_eq_none (by rw [wipe_length]; omega)]
  · rw [wipe_out hi, wipe_out hi, h i hi]
theorem wipe_set {σ : L2.St} {vs : List Nat} {j : Nat} {y : Option V} (h : j ∈ vs) : wipe (σ.set j y) vs = wipe σ vs :=
  wipe_eq (by simp) fun i hi => by rw [List.getElem?_set_ne]; exact fun e => hi (e ▸ h)
theorem wipe_wipe {σ : L2.St} {vs : List Nat} : wipe (wipe σ vs) vs = wipe σ vs := wipe_eq (wipe_length σ vs) fun i hi => wipe_out hi
theorem EnvS.wipe {K : PySem.W.Frag} {S0 S : Ad} {H : Hp} {l : Sl} {σ : L2.St} (E : EnvS K S0 S H l σ) (vs : List Nat) : EnvS K S0 S H (wipeS l vs) (L2.wipe σ vs) := by
  refine ⟨by rw [wipeS_len, wipe_length]; exact E.len, E.dS, E.d0, E.ap, fun i m d h => ?_, fun i j d e v hij hi hj hv => ?_⟩
  · obtain ⟨h1, h2⟩ := wipeS_get h
    rw [wipe_out h2]
    exact E.at_ i m d h1
  · obtain ⟨h1, h2⟩ := wipeS_get hi
    obtain ⟨h3, h4⟩ := wipeS_get hj
    rw [wipe_out h2] at hv
    rw [wipe_out h4]
    exact E.one i j d e v hij h1 h3 hv
/-- a value for a target: what is stored is told by set, at the slots js -/
def tG [Enc ι] (K : PySem.W.Frag) (sl : Γ → Sl) (slb : Γb → Sl) (set : Γ → ι → Γb) (js : List Nat) : TG := fun v σ H Q =>
  ∃ (g : Γ) (S0 S : Ad) (x : ι), EnvS K S0 S H (sl g) σ ∧ Rp K H (un S S0) (enc x) v ∧ ∀ σ', EnvS K S0 S H (slb (set g x)) σ' → (∀ vs : List Nat, (∀ i ∈ js, i ∈ vs) → wipe σ' vs = wipe σ vs) → Q σ' H
def GV [Enc ι] (X : Cx) (sl : Γ → Sl) (slb : Γb → Sl) (tg : Expr) (set : Γ → ι → Γb) (js : List Nat) : Prop := PG X tg (tG X.K sl slb set js)
theorem PG.imp {X : Cx} {tg : Expr} {t t' : TG} (h : PG X tg t) (i : ∀ v σ H Q, t' v σ H Q → t v σ H Q) : PG X tg t' := ⟨fun pins s σ H v u Q I r q => h.run pins s σ H v u Q I r (i v σ H Q q)⟩
theorem PGs.imp {X : Cx} {tg : List Expr} {t t' : TGs} (h : PGs X tg t) (i : ∀ v σ H Q, t' v σ H Q → t v σ H Q) : PGs X tg t' := ⟨fun pins s σ H v u Q I r q => h.run pins s σ H v u Q I r (i v σ H Q q)⟩
theorem gv_name [Enc ι] {set : Γ → ι → Γb} {i : Nat} {x : Str} (h : ∀ g t, slb (set g t) = (sl g).set i (some (.a, enc t))) (hN : X.N.Nodup) (hi : X.N[i]? = some x := by rfl) (hx : Loc X.env.scope x := by first | exact .inl rfl | exact .inr rfl)
    (hf : X.fn x = true ∨ X.env.scope.names.lookup x = some .local := by first | exact .inl rfl | exact .inr rfl) : GV X sl slb (.Name x pos) set [i] := PG.imp (pg_name hN hi hx hf) fun v σ H Q ⟨g, S0, S, x, E, r, q⟩ => by
  refine q _ ?_ fun vs hv => wipe_set (hv i (by simp))
  rw [h]
  exact E.seta r
/-- targets one after another -/
def tGs (K : PySem.W.Frag) (sl : Γ → Sl) (slb : Γb → Sl) (ds : ι → List PyData) (set : Γ → ι → Γb) (js : List Nat) : TGs := fun vs σ H Q =>
  ∃ (g : Γ) (S0 S : Ad) (x : ι), EnvS K S0 S H (sl g) σ ∧ RpA K H (un S S0) (ds x) vs ∧ ∀ σ', EnvS K S0 S H (slb (set g x)) σ' → (∀ vs : List Nat, (∀ i ∈ js, i ∈ vs) → wipe σ' vs = wipe σ vs) → Q σ' H
theorem gvs_nil : PGs X [] (tGs (ι := ι) X.K sl sl (fun _ => []) (fun g _ => g) []) := PGs.imp pgs_nil fun vs σ H Q ⟨g, S0, S, x, E, r, q⟩ => ⟨r, q σ E fun _ _ => rfl⟩
theorem gvs_cons [Enc α] {e : Expr} {es : List Expr} {slm : Γ' → Sl} {set1 : Γ → α → Γ'} {set2 : Γ' → β → Γb} {js1 js2 : List Nat} {ds : β → List PyData} {p1 : ι → α} {p2 : ι → β} (h1 : GV X sl slm e set1 js1) (h2 : PGs X es (tGs X.K slm slb ds set2 js2))
    (hs : (assignEach (e :: es) X.env).map (·.2) = assign e X.env :: (assignEach es X.env).map (·.2) := by rfl) :
    PGs X (e :: es) (tGs X.K sl slb (fun x => enc (p1 x) :: ds (p2 x)) (fun g x => set2 (set1 g (p1 x)) (p2 x)) (js1 ++ js2)) := PGs.imp (pgs_cons h1 h2 hs) fun vs σ H Q ⟨g, S0, S, x, E, r, q⟩ => by
  obtain ⟨v, ws, rfl, r1, r2⟩ := r
  refine ⟨v, ws, rfl, g, S0, S, p1 x, E, r1, fun σ1 E1 w1 => ⟨_, S0, S, p2 x, E1, r2, fun σ2 E2 w2 => q σ2 E2 fun vs hv => ?_⟩⟩
  rw [w2 vs fun i hi => hv i (by simp [hi]), w1 vs fun i hi => hv i (by simp [hi])]
theorem gv_tup [Enc ι] {es : List Expr} {kk n : Nat} {set : Γ → ι → Γb} {js : List Nat} (ds : ι → List PyData) (hd : ∀ x, enc x = .tuple (ds x)) (hl : ∀ x, (ds x).length = n) (h : PGs X es (tGs X.K sl slb ds set js)) (hc : X.calm = true := by rfl)
    (hn : (assignEach es X.env).length = n := by rfl) (hst : (assignEach es X.env).findIdx? (·.1) = none := by rfl) : GV X sl slb (.Tuple es kk pos) set js := PG.imp (pg_tup hc h hn hst) fun v σ H Q ⟨g, S0, S, x, E, r, q⟩ => by
  rw [hd] at r
  obtain ⟨a, xs, rfl, h1, h2⟩ := r
  exact ⟨a, xs, rfl, h1.sq, by rw [h2.length, hl], g, S0, S, x, E, h2, q⟩
/-- a, b = e -/
theorem sv_tup [Enc ρ] [Enc ι] {tg : Expr} {f : Γ → Option ι} {set : Γ → ι → Γ'} {js : List Nat} (hg : GV X sl sl' tg set js) (he : PV X sl .a e f) (hs : swapsWithSole [tg] e pos.line X.env = pure false := by rfl) (hw : swappedStores [tg] e X.env = pure none := by rfl)
    (h1 : (assignEach [tg] X.env).map (·.2) = [assign tg X.env] := by rfl) : SV (ρ := ρ) X sl sl' kr (.Assign [tg] e pos) (fun g => (f g).bind fun t => some (.nx (set g t))) :=
  PS.imp (ps_asg he hg hs hw h1) fun D σ H ⟨γ, S0, S, o, E, hf, p⟩ => by
    obtain ⟨t, e1, e2⟩ := bind1 hf
    cases e2
    exact ⟨γ, S0, S, t, E, e1, fun v H' s r => ⟨γ, S0, S, t, E.same s, r, fun σ' E' _ => p σ' H' S E' (.same s)⟩⟩
/-- a, b = x, y: two local names -/
theorem sv_par [Enc ρ] [Enc α] [Enc β] {i j : Nat} {x y : Str} {px py pt : Pos} {kt k2 : Nat} {pt2 : Pos} {fa : Γ → Option α} {fb : Γ → Option β} (set : Γ → α → β → Γ') (h : ∀ g t u, sl' (set g t u) = ((sl g).set i (some (.a, enc t))).set j (some (.a, enc u)))
    (hN : X.N.Nodup) (ha : PV X sl .a a fa) (hb : PV X sl .a b fb) (hij : i ≠ j := by decide) (hi : X.N[i]? = some x := by rfl) (hj : X.N[j]? = some y := by rfl) (hx : X.env.scope.names.lookup x = some .local := by rfl) (hy : X.env.scope.names.lookup y = some .local := by rfl) (hc : X.calm = true := by rfl)
    (h1 : starEach [a, b] X.env = (false, eval a X.env) :: starEach [b] X.env := by rfl) (h2 : starEach [b] X.env = (false, eval b X.env) :: starEach [] X.env := by rfl)
    (hw : swappedStores [.Tuple [.Name x px, .Name y py] kt pt] (.Tuple [a, b] k2 pt2) X.env = pure (some [x, y]) := by rfl)
    (hs : swapsWithSole [.Tuple [.Name x px, .Name y py] kt pt] (.Tuple [a, b] k2 pt2) pos.line X.env = pure false := by rfl) :
    SV (ρ := ρ) X sl sl' kr (.Assign [.Tuple [.Name x px, .Name y py] kt pt] (.Tuple [a, b] k2 pt2) pos) (fun g => (fa g).bind fun t => (fb g).bind fun u => some (.nx (set g t u))) :=
  PS.imp (ps_par hc hN hi hj hij hx hy (pa_cons ha (pa_cons hb pa_nil h2) h1) hw hs) fun D σ H ⟨γ, S0, S, o, E, hf, p⟩ => by
    obtain ⟨t, u, e1, e2, e3⟩ := bind2 hf
    cases e3
    refine ⟨γ, S0, S, t, E, e1, fun v H1 s1 r1 => ⟨γ, S0, S, u, E.same s1, e2, fun w H2 s2 r2 => ⟨v, w, rfl, ?_⟩⟩⟩
    refine p _ _ S ?_ (.same (s1.trans s2))
    rw [h]
    exact (((E.same s1).same s2).seta (Rp.mv (.same s2) _ _ r1)).seta r2

/-! ### what is walked -/
def ItOk [Enc ι] (K : PySem.W.Frag) (S0 S : Ad) (kd : Kd) (J : It) (H1 : Hp) (xs : List ι) : Prop :=
  ∀ (S2 : Ad) (H2 : Hp), Mv S H1 S2 H2 → (kd = .b → Same H1 H2) → (∀ a, un S2 S0 a → H2 a ≠ none) →
    (∀ i, xs.length ≤ i → J.stop i H2) ∧ ∀ i x, xs[i]? = some x → J.go i H2 ∧ ∀ v H3, J.yld i H2 v H3 → Same H2 H3 ∧ Rp K H3 (un S2 S0) (enc x) v
def tI [Enc ι] (K : PySem.W.Frag) (sl : Γ → Sl) (kd : Kd) (f : Γ → Option (List ι)) : TI := fun σ H R =>
  ∃ (g : Γ) (S0 S : Ad) (xs : List ι), EnvS K S0 S H (sl g) σ ∧ f g = some xs ∧ ∀ J H', Same H H' → ItOk K S0 S kd J H' xs → R J H'
def IV [Enc ι] (X : Cx) (sl : Γ → Sl) (kd : Kd) (tg it : Expr) (f : Γ → Option (List ι)) : Prop := PI X tg it (tI X.K sl kd f)
theorem IV.ab [Enc ι] {tg it : Expr} {f : Γ → Option (List ι)} (h : IV X sl .a tg it f) : IV X sl .b tg it f := PI.imp h fun σ H R ⟨g, S0, S, xs, E, hf, q⟩ =>
  ⟨g, S0, S, xs, E, hf, fun J H' s ok => q J H' s fun S2 H2 m _ d => ok S2 H2 m (fun z => nomatch z) d⟩
theorem ok_list [Enc ι] {K : PySem.W.Frag} {S0 S : Ad} {H1 : Hp} {xs : List ι} {a : Addr} {vs : List V} {kd : Kd} (h : ∀ S2 H2, Mv S H1 S2 H2 → (kd = .b → Same H1 H2) → SqL K H2 a vs) (r : RpA K H1 (un S S0) (xs.map enc) vs) : ItOk K S0 S kd (Itl K a) H1 xs := by
  intro S2 H2 m s d
  have h2 := h S2 H2 m s
  have r2 := r.mv m.un
  refine ⟨fun i hi => ⟨vs, h2, by rw [map_len r2]; exact hi⟩, fun i x hx => ?_⟩
  obtain ⟨v, e1, e2⟩ := map_get r2 hx
  refine ⟨⟨vs, v, h2, e1⟩, fun w H3 hy => ?_⟩
  obtain ⟨rfl, hy⟩ := hy
  have e3 := hy vs h2
  rw [e1] at e3
  cases e3
  exact ⟨Same.refl _, e2⟩
theorem piv_list [Enc ι] {tg : Expr} {f : Γ → Option (List ι)} (h : PV X sl .a e f) : IV X sl .a tg e f := PI.imp (pi_list h) fun σ H R ⟨g, S0, S, xs, E, hf, q⟩ => by
  refine ⟨g, S0, S, xs, E, hf, fun v H1 s1 r1 => ?_⟩
  obtain ⟨a, vs, rfl, h1, h2⟩ := r1
  exact ⟨a, rfl, ⟨vs, h1.sq⟩, q _ H1 s1 (ok_list (fun S2 H2 m _ => (h1.mv m.un).sq) h2)⟩
theorem sq_same {K : PySem.W.Frag} {H H' : Hp} {a : Addr} {xs : List V} (s : Same H H') (h : SqL K H a xs) : SqL K H' a xs := s.seq h
theorem piv_listb [Enc ι] {tg : Expr} {f : Γ → Option (List ι)} (h : PV X sl .b e f) : IV X sl .b tg e f := PI.imp (pi_list h) fun σ H R ⟨g, S0, S, xs, E, hf, q⟩ => by
  refine ⟨g, S0, S, xs, E, hf, fun v H1 s1 r1 => ?_⟩
  obtain ⟨a, vs, rfl, h1, h2⟩ := rb_l r1
  exact ⟨a, rfl, ⟨vs, h1⟩, q _ H1 s1 (ok_list (fun S2 H2 _ s => sq_same (s rfl) h1) h2)⟩
/-- lo, lo + 1, .. -/
def rng (lo : Int) (n : Nat) : List Int := (List.range n).map fun i : Nat => lo + i
theorem rng_len {lo : Int} {n : Nat} : (rng lo n).length = n := by unfold rng; simp
theorem rng_get {lo : Int} {n i : Nat} {x : Int} (h : (rng lo n)[i]? = some x) : i < n ∧ x = lo + i := by
  unfold rng at h
  rw [List.getElem?_map] at h
  by_cases hi : i < n
  · rw [List.getElem?_range hi] at h
    exact ⟨hi, (Option.some.inj h).symm⟩
  · rw [List.getElem?_eq_none (by simpa using hi)] at h
    cases h
theorem ok_rng {K : PySem.W.Frag} {S0 S : Ad} {H1 : Hp} {kd : Kd} {lo : Int} {n : Nat} : ItOk K S0 S kd (Itr lo n) H1 (rng lo n) := by
  intro S2 H2 m s d
  refine ⟨fun i hi => by rw [rng_len] at hi; exact hi, fun i x hx => ?_⟩
  obtain ⟨h1, rfl⟩ := rng_get hx
  refine ⟨h1, fun v H3 hy => ?_⟩
  obtain ⟨rfl, rfl⟩ := hy
  exact ⟨Same.refl _, rfl⟩
def inR (j : Int) : Prop := -(2 ^ 62) ≤ j ∧ j < 2 ^ 62
instance (j : Int) : Decidable (inR j) := by unfold inR; exact inferInstance
def rng1 (j : Int) : Option (List Int) := if inR j then some (rng 0 j.toNat) else none
def rng2 (i j : Int) : Option (List Int) := if inR i ∧ inR j then some (rng i (j - i).toNat) else none
section
variable {p : Pos} {fa fb : Γ → Option Int} {tg : Expr}
theorem piv_range1 (hg : Gl X "range") (hm : X.mg "range" = none) (ha : PV X sl .b a fa) (hs : starEach [a] X.env = [(false, eval a X.env)] := by rfl) : IV X sl .a tg (.Call (.Name "range" p) [a] [] pos) (fun s => (fa s).bind fun j => rng1 j) :=
  PI.imp (pi_range1 hg hm (pa_cons ha pa_nil hs) hs) fun σ H R ⟨g, S0, S, xs, E, hf, q⟩ => by
    obtain ⟨j, e1, e2⟩ := bind1 hf
    obtain ⟨h1, rfl⟩ := if_some e2
    refine ⟨g, S0, S, j, E, e1, fun v H1 s1 r1 => ⟨j, by rw [rb_i r1], h1.1, h1.2, q _ H1 s1 ok_rng⟩⟩
theorem piv_range2 (hg : Gl X "range") (hm : X.mg "range" = none) (ha : PV X sl .b a fa) (hb : PV X sl .b b fb) (hs : starEach [a, b] X.env = [(false, eval a X.env), (false, eval b X.env)] := by rfl) (hs2 : starEach [b] X.env = [(false, eval b X.env)] := by rfl) :
    IV X sl .a tg (.Call (.Name "range" p) [a, b] [] pos) (fun s => (fa s).bind fun i => (fb s).bind fun j => rng2 i j) :=
  PI.imp (pi_range2 hg hm (pa_cons ha (pa_cons hb pa_nil hs2) (by rw [hs, hs2])) hs hs2) fun σ H R ⟨g, S0, S, xs, E, hf, q⟩ => by
    obtain ⟨i, j, e1, e2, e3⟩ := bind2 hf
    obtain ⟨⟨h1, h2⟩, rfl⟩ := if_some e3
    exact ⟨g, S0, S, i, E, e1, fun v H1 s1 r1 => ⟨g, S0, S, j, E.same s1, e2, fun w H2 s2 r2 => ⟨i, j, by rw [rb_i r1, rb_i r2], ⟨h1.1, h1.2, h2.1, h2.2⟩, q _ H2 (s1.trans s2) ok_rng⟩⟩⟩
end
theorem piv_enum [Enc τ] {elts : List Expr} {kk : Nat} {p tpos : Pos} {f : Γ → Option (List τ)} (hg : Gl X "enumerate") (hm : X.mg "enumerate" = none) (ha : PV X sl .a a f) (hs : starEach [a] X.env = [(false, eval a X.env)] := by rfl) :
    IV X sl .a (.Tuple elts kk tpos) (.Call (.Name "enumerate" p) [a] [] pos) (fun s => (f s).bind fun l => some (l.zipIdx.map fun q => T2.mk (q.2 : Int) q.1)) :=
  PI.imp (pi_enum hg hm (pa_cons ha pa_nil hs) hs) fun σ H R ⟨g, S0, S, xs, E, hf, q⟩ => by
    obtain ⟨l, e1, e2⟩ := bind1 hf
    cases e2
    refine ⟨g, S0, S, l, E, e1, fun v H1 s1 r1 => ?_⟩
    obtain ⟨a, vs, rfl, h1, h2⟩ := r1
    refine ⟨a, vs, rfl, h1.sq, q _ H1 s1 fun S2 H2 m s d => ?_⟩
    have h3 := (h1.mv m.un).sq
    have r2 : RpA X.K H2 (un S2 S0) (l.map enc) vs := RpA.mv m.un _ _ h2
    refine ⟨fun i hi => ⟨vs, h3, by rw [map_len r2]; simpa using hi⟩, fun i x hx => ?_⟩
    obtain ⟨y, hy, rfl⟩ : ∃ y, l[i]? = some y ∧ x = T2.mk (i : Int) y := by
      rw [List.getElem?_map, List.getElem?_zipIdx] at hx
      cases h : l[i]? with
      | none => rw [h] at hx; cases hx
      | some y => rw [h] at hx; cases hx; exact ⟨y, rfl, by simp⟩
    obtain ⟨v, g1, g2⟩ := map_get r2 hy
    refine ⟨⟨vs, v, h3, g1⟩, fun w H3 hy => ?_⟩
    obtain ⟨T, z, rfl, hT, rfl, hz⟩ := hy
    have e3 := hz vs h3
    rw [g1] at e3
    cases e3
    exact ⟨same_new hT, rp_newT d hT ⟨_, _, rfl, rfl, .one g2⟩⟩
theorem piv_zip [Enc α] [Enc β] {elts : List Expr} {kk : Nat} {p tpos : Pos} {fa : Γ → Option (List α)} {fb : Γ → Option (List β)} (hg : Gl X "zip") (hm : X.mg "zip" = none) (ha : PV X sl .a a fa) (hb : PV X sl .a b fb)
    (hs : starEach [a, b] X.env = (false, eval a X.env) :: starEach [b] X.env := by rfl) (hs2 : starEach [b] X.env = (false, eval b X.env) :: starEach [] X.env := by rfl) (hpl : (backTo pos (starEach [b] X.env)).any (·.1) = false := by rfl) :
    IV X sl .a (.Tuple elts kk tpos) (.Call (.Name "zip" p) [a, b] [] pos) (fun s => (fa s).bind fun l => (fb s).bind fun r => some (List.zipWith T2.mk l r)) :=
  PI.imp (pi_zip hg hm (pa_cons ha (pa_cons hb pa_nil hs2) hs) hs hpl) fun σ H R ⟨g, S0, S, xs, E, hf, q⟩ => by
    obtain ⟨l, r, e1, e2, e3⟩ := bind2 hf
    cases e3
    refine ⟨g, S0, S, l, E, e1, fun v H1 s1 r1 => ⟨g, S0, S, r, E.same s1, e2, fun w H2 s2 r2 => ?_⟩⟩
    have r1 := Rp.mv (.same s2) _ _ r1
    obtain ⟨a, vs, rfl, h1, h2⟩ := r1
    obtain ⟨b, ws, rfl, h3, h4⟩ := r2
    refine ⟨a, b, vs, ws, rfl, h1.sq, h3.sq, q _ H2 (s1.trans s2) fun S2 H3 m s d => ?_⟩
    have g1 := (h1.mv m.un).sq
    have g3 := (h3.mv m.un).sq
    have g2 : RpA X.K H3 (un S2 S0) (l.map enc) vs := RpA.mv m.un _ _ h2
    have g4 : RpA X.K H3 (un S2 S0) (r.map enc) ws := RpA.mv m.un _ _ h4
    refine ⟨fun i hi => ⟨vs, ws, g1, g3, by rw [map_len g2, map_len g4]; rw [List.length_zipWith] at hi; omega⟩, fun i x hx => ?_⟩
    rw [List.getElem?_zipWith] at hx
    cases hl : l[i]? with
    | none => rw [hl] at hx; cases hx
    | some y =>
      cases hr : r[i]? with
      | none => rw [hl, hr] at hx; cases hx
      | some z =>
        rw [hl, hr] at hx
        cases hx
        obtain ⟨v, j1, j2⟩ := map_get g2 hl
        obtain ⟨w, j3, j4⟩ := map_get g4 hr
        refine ⟨⟨vs, ws, v, w, g1, g3, j1, j3⟩, fun u H4 hy => ?_⟩
        obtain ⟨T, y', z', rfl, hT, rfl, hy, hz⟩ := hy
        have e3 := hy vs g1
        have e4 := hz ws g3
        rw [j1] at e3
        rw [j3] at e4
        cases e3; cases e4
        exact ⟨same_new hT, rp_newT d hT ⟨_, _, rfl, j2, .one j4⟩⟩
theorem piv_str {tg : Expr} {f : Γ → Option Tx} (h : PV X sl .b e f) : IV X sl .a tg e (fun s => (f s).bind fun t => some (t.cs.map fun c => (⟨[c]⟩ : Tx))) := PI.imp (pi_str h) fun σ H R ⟨g, S0, S, xs, E, hf, q⟩ => by
  obtain ⟨t, e1, e2⟩ := bind1 hf
  cases e2
  refine ⟨g, S0, S, t, E, e1, fun v H1 s1 r1 => ⟨_, rb_t r1, q _ H1 s1 fun S2 H2 m s d => ?_⟩⟩
  refine ⟨fun i hi => by show Array.size _ ≤ i; simpa using hi, fun i x hx => ?_⟩
  rw [List.getElem?_map] at hx
  cases hc : t.cs[i]? with
  | none => rw [hc] at hx; cases hx
  | some c =>
    rw [hc] at hx
    cases hx
    obtain ⟨hl, _⟩ := List.getElem?_eq_some_iff.mp hc
    refine ⟨by show i < Array.size _; simpa using hl, fun v H3 hy => ?_⟩
    obtain ⟨rfl, c', hc', rfl⟩ := hy
    have e3 : t.cs[i]? = some c' := by simpa using hc'
    rw [hc] at e3
    cases e3
    exact ⟨Same.refl _, rfl⟩

/-! ### for -/
def forO (set : Γ → ι → Γb) (b : Γb → Option (Out Γ ρ)) : List ι → Γ → Option (Out Γ ρ)
  | [], g => some (.nx g)
  | x :: xs, g => seqO (b (set g x)) (forO set b xs)
theorem sv_for [Enc ρ] [Enc ι] {tg : Expr} {fi : Γ → Option (List ι)} {set : Γ → ι → Γb} {js : List Nat} {f : Γb → Option (Out Γ ρ)} (hp : PassesOwn (model X.prog X.w) X.A X.env X.xe) (hi : IV X sl .a tg e fi) (hg : GV X sl slb tg set js) (hb : BV X slb sl kr sts f) (hc : X.calm = true := by rfl)
    (hs : ∀ x, foldedSetIterable e X.env x = pure x := by intro _; rfl) : SV X sl sl kr (.For tg e sts [] pos) (fun g => (fi g).bind fun xs => forO set f xs g) :=
  PS.imp (ps_for hp hc hi hg hb hs) fun D σ H ⟨γ, S0, S, o, E, hf, p⟩ => by
    obtain ⟨xs, e1, e2⟩ := bind1 hf
    refine ⟨γ, S0, S, xs, E, e1, fun J H1 s1 ok => ?_⟩
    refine ⟨fun i m σ2 H2 => ∃ g2 S2, EnvS X.K S0 S2 H2 (sl g2) σ2 ∧ Mv S H1 S2 H2 ∧ i + m = xs.length ∧ forO set f (xs.drop i) g2 = some o ∧ Post X.K S0 S2 H2 sl kr D o,
      ⟨xs.length, γ, S, E.same s1, .refl, Nat.zero_add _, e2, p.back (.same s1)⟩, ?_⟩
    rintro i m σ2 H2 ⟨g2, S2, E2, mv, him, h2, p2⟩
    obtain ⟨hstop, hgo⟩ := ok S2 H2 mv (fun z => nomatch z) E2.dT
    cases hx : xs[i]? with
    | none =>
      have hi : xs.length ≤ i := List.getElem?_eq_none_iff.mp hx
      rw [List.drop_of_length_le hi] at h2
      cases h2
      exact .inl ⟨hstop i hi, p2 σ2 H2 S2 E2 .refl⟩
    | some x =>
      obtain ⟨hi, ex⟩ := List.getElem?_eq_some_iff.mp hx
      obtain ⟨hg1, hy⟩ := hgo i x hx
      rw [List.drop_eq_getElem_cons hi, ex] at h2
      obtain ⟨o1, e3, e4⟩ := bind1 (show seqO (f (set g2 x)) (forO set f (xs.drop (i + 1))) = some o from h2)
      refine .inr ⟨hg1, fun σ' H' => ∃ g' S', EnvS X.K S0 S' H' (sl g') σ' ∧ Mv S H1 S' H' ∧ forO set f (xs.drop (i + 1)) g' = some o ∧ Post X.K S0 S' H' sl kr D o, fun σ' H' ⟨g', S', q1, q2, q3, q4⟩ => ⟨m - 1, by omega, g', S', q1, q2, by omega, q3, q4⟩, fun v H3 yl => ?_⟩
      obtain ⟨s3, r3⟩ := hy v H3 yl
      refine ⟨g2, S0, S2, x, E2.same s3, r3, fun σ3 E3 _ => ⟨_, S0, S2, o1, E3, e3, ?_⟩⟩
      have p3 : Post X.K S0 S2 H3 sl kr D o := p2.back (.same s3)
      have mv3 : Mv S H1 S2 H3 := mv.trans (.same s3)
      cases o1 with
      | nx g' => exact fun σ' H' S' E' m' => ⟨g', S', E', mv3.trans m', e4, p3.back m'⟩
      | rt r =>
        cases e4
        exact p3

/-! ### comprehensions -/
def tBs (K : PySem.W.Frag) (sl : Γ → Sl) (f : Γ → Option Bool) : TT := tB K sl f
def PBs (X : Cx) (sl : Γ → Sl) (ifs : List Expr) (f : Γ → Option Bool) : Prop := PTs X ifs (tB X.K sl f)
theorem pbs_nil : PBs X sl [] (fun _ => some true) := PTs.imp pts_nil fun σ H Q ⟨g, S0, S, t, E, hf, q⟩ => by
  cases hf
  exact q H (Same.refl H)
theorem pbs_one {f : Γ → Option Bool} (h : PB X sl e f) : PBs X sl [e] f := PTs.imp (pts_one h) fun σ H Q h => h
def compO (t : Γb → Option Bool) (f : Γb → Option τ) (set : ι → Γb) : List ι → Option (List τ)
  | [] => some []
  | x :: xs => (t (set x)).bind fun c => if c = true then (f (set x)).bind fun y => (compO t f set xs).bind fun ys => some (y :: ys) else compO t f set xs
/-- within a comprehension what is owned is borrowed -/
def toB : Option (Mo × PyData) → Option (Mo × PyData)
  | some (.o, d) => some (.b, d)
  | x => x
def wipeB (l : Sl) (vs : List Nat) : Sl := wipeS (l.map toB) vs
theorem toB_get {l : Sl} {i : Nat} {m : Mo} {d : PyData} (h : (l.map toB)[i]? = some (some (m, d))) : (l[i]? = some (some (m, d)) ∧ m ≠ .o) ∨ (m = .b ∧ l[i]? = some (some (.o, d))) := by
  rw [List.getElem?_map] at h
  cases e : l[i]? with
  | none => rw [e] at h; cases h
  | some x =>
    rw [e] at h
    cases x with
    | none => cases h
    | some y =>
      obtain ⟨m', d'⟩ := y
      cases m' with
      | a => cases h; exact .inl ⟨rfl, nofun⟩
      | b => cases h; exact .inl ⟨rfl, nofun⟩
      | o => cases h; exact .inr ⟨rfl, rfl⟩
def isA (p : Addr) : Ad := fun a => a = p
/-- into a comprehension whose list is at D -/
theorem EnvS.into {K : PySem.W.Frag} {S0 S : Ad} {H H' : Hp} {l : Sl} {σ : L2.St} {p : Addr} (E : EnvS K S0 S H l σ) (s : Same H H') (hp : H p = none) (hp' : H' p ≠ none) (vs : List Nat) : EnvS K (un S S0) (isA p) H' (wipeB l vs) (L2.wipe σ vs) := by
  have mv : Mv (un S S0) H (un (isA p) (un S S0)) H' := fun a o h n => ⟨s a o h, fun z => z.elim (ne_of_none h hp) n⟩
  have top : ∀ {a : Addr} {u : HO}, Rd H a u → Rd H' a u ∧ ¬ isA p a := fun {a u} h => by
    rcases h with h | ⟨o, h⟩
    · exact ⟨.inl (s _ _ h), ne_of_none h hp⟩
    · exact ⟨.inr ⟨o, s _ _ h⟩, ne_of_none h hp⟩
  have noO : ∀ {i : Nat} {d : PyData}, (l.map toB)[i]? ≠ some (some (.o, d)) := fun h => by
    rcases toB_get h with ⟨_, z⟩ | ⟨z, _⟩
    · exact z rfl
    · cases z
  refine ⟨by unfold wipeB; rw [wipeS_len, wipe_length, List.length_map]; exact E.len, fun a h => ?_, fun a h => nn_same s (E.dT a h), fun a h z => ?_, fun i m d h => ?_, fun i j d e v hij hi hj hv => ?_⟩
  · have h : a = p := h
    rw [h]; exact hp'
  · have h : a = p := h
    rw [h] at z
    exact E.dT p z hp
  · obtain ⟨h1, h2⟩ := wipeS_get h
    rw [wipe_out h2]
    rcases toB_get h1 with ⟨h3, h4⟩ | ⟨rfl, h3⟩
    · obtain ⟨v, h5, h6⟩ := E.at_ i m d h3
      refine ⟨v, h5, ?_⟩
      cases m with
      | a => exact Rp.mv mv _ _ h6
      | b =>
        rcases h6 with h6 | ⟨ds, a, xs, e1, e2, e3, e4⟩ | ⟨ds, a, xs, e1, e2, e3, e4⟩
        · exact .inl (Rp.mv mv _ _ h6)
        · exact .inr (.inl ⟨ds, a, xs, e1, e2, top e3.1, e4.mv mv⟩)
        · exact .inr (.inr ⟨ds, a, xs, e1, e2, top e3.1, e4.mv mv⟩)
      | o => exact absurd rfl h4
    · obtain ⟨v, h5, a, rfl, h6, h7⟩ := E.at_ i _ d h3
      refine ⟨_, h5, ?_⟩
      rcases h7 with ⟨ds, xs, e1, e2, e3⟩ | ⟨ds, xs, e1, e2, e3⟩
      · exact .inr (.inl ⟨ds, a, xs, e1, rfl, top (.inl e2), e3.mv mv⟩)
      · exact .inr (.inr ⟨ds, a, xs, e1, rfl, top (.inl e2), e3.mv mv⟩)
  · exact absurd (wipeS_get hi).1 noO
/-- the list under construction grows -/
theorem EnvS.upA {K : PySem.W.Frag} {S0 : Ad} {H : Hp} {l : Sl} {σ : L2.St} {p : Addr} {u : HO} (E : EnvS K S0 (isA p) H l σ) (nq : ∀ (i : Nat) (d : PyData), l[i]? ≠ some (some (.o, d))) : EnvS K S0 (isA p) (upd H p u) l σ := by
  have mv : Mv (isA p) H (isA p) (upd H p u) := fun a o h n => ⟨by rw [upd_ne n]; exact h, n⟩
  have nn : ∀ b, H b ≠ none → upd H p u b ≠ none := fun b h => by
    by_cases hb : b = p
    · subst hb; rw [upd_same]; simp
    · rw [upd_ne hb]; exact h
  refine ⟨E.len, fun a h => nn a (E.dS a h), fun a h => nn a (E.d0 a h), E.ap, fun i m d h => ?_, E.one⟩
  obtain ⟨v, h1, h2⟩ := E.at_ i m d h
  refine ⟨v, h1, ?_⟩
  cases m with
  | a => exact Rp.mv mv.un _ _ h2
  | b => exact Rbs.mv mv h2
  | o => exact absurd h (nq i d)
theorem EnvS.wipeB {K : PySem.W.Frag} {S0 S : Ad} {H : Hp} {l : Sl} {σ : L2.St} (E : EnvS K S0 S H l σ) (vs : List Nat) (nq : ∀ (i : Nat) (d : PyData), l[i]? ≠ some (some (.o, d))) : EnvS K S0 S H (PL.wipeB l vs) (L2.wipe σ vs) := by
  have e : l.map toB = l := by
    apply List.ext_getElem?
    intro i
    rw [List.getElem?_map]
    cases h : l[i]? with
    | none => rfl
    | some x =>
      cases x with
      | none => rfl
      | some y =>
        obtain ⟨m, d⟩ := y
        cases m with
        | a => rfl
        | b => rfl
        | o => exact absurd h (nq i d)
  unfold PL.wipeB
  rw [e]
  exact E.wipe vs
theorem compO_len {t : Γb → Option Bool} {f : Γb → Option τ} {set : ι → Γb} : ∀ {xs : List ι} {ys : List τ}, compO t f set xs = some ys → ys.length ≤ xs.length
  | [], ys, h => by cases h; exact Nat.le_refl _
  | x :: xs, ys, h => by
    obtain ⟨c, h1, h2⟩ := bind1 h
    cases c with
    | true =>
      obtain ⟨y, zs, h3, h4, h5⟩ := bind2 (show ((f (set x)).bind fun y => (compO t f set xs).bind fun ys => some (y :: ys)) = some ys from h2)
      cases h5
      exact Nat.succ_le_succ (compO_len h4)
    | false => exact Nat.le_succ_of_le (compO_len (show compO t f set xs = some ys from h2))
theorem lc_read [Enc ι] [Enc τ] {K : PySem.W.Frag} {vs : List Nat} {fi : Γ → Option (List ι)} {set : Γ → ι → Γb} {js : List Nat} {ft : Γb → Option Bool} {fe : Γb → Option τ} (hj : ∀ i ∈ js, i ∈ vs) {σ : L2.St} {H : Hp} {Q : VK}
    (h : tD K sl .f (fun g => (fi g).bind fun xs => (lNew xs).bind fun xs => compO ft fe (set g) xs) σ H Q) : tLc (tI K sl .b fi) (tG K (fun g => wipeB (sl g) vs) slb set js) (tB K slb ft) (tD K slb .a fe) vs σ H Q := by
  obtain ⟨γ, S0, S, r, E, hf, q⟩ := h
  obtain ⟨xs, e1, e2⟩ := bind1 hf
  obtain ⟨xs', e3, e4⟩ := bind1 e2
  obtain ⟨hz, rfl⟩ := if_some e3
  refine ⟨γ, S0, S, xs, E, e1, fun J H1 s1 ok => fun D hD => ?_⟩
  have E1 := E.same s1
  have mvD : ∀ H2, Same H1 H2 → Mv S H1 (wi S D) H2 := fun H2 s2 => fun a o h n => ⟨s2 a o h, fun z => z.elim n (ne_of_none h hD)⟩
  have hT : ∀ a, wi (un S S0) D a → un (isA D) (un S S0) a := fun a z => z.elim .inr .inl
  have hT2 : ∀ a, un (isA D) (un S S0) a → un (wi S D) S0 a := fun a z => by
    rcases z with z | z | z
    · exact .inl (.inr z)
    · exact .inl (.inl z)
    · exact .inr z
  refine ⟨fun i m H2 => Same H1 H2 ∧ i + m = xs.length ∧ ∃ (done : List τ) (acc : List V) (rest : List τ), H2 D = some (.lst acc) ∧ RpA K H2 (wi (un S S0) D) (done.map enc) acc ∧ done.length ≤ i ∧ compO ft fe (set γ) (xs.drop i) = some rest ∧ done ++ rest = r,
    ⟨xs.length, same_new hD, Nat.zero_add _, [], [], r, upd_same, rfl, Nat.le_refl _, e4, rfl⟩, ?_⟩
  rintro i m H2 ⟨s2, him, done, acc, rest, hacc, hrp, hdl, hrest, hr⟩
  have E2 := E1.into s2 hD (by rw [hacc]; simp) vs
  obtain ⟨hstop, hgo⟩ := ok (wi S D) H2 (mvD H2 s2) (fun _ => s2) (fun a z => E2.dT a (by
    rcases z with (z | z) | z
    · exact .inr (.inl z)
    · exact .inl z
    · exact .inr (.inr z)))
  cases hx : xs[i]? with
  | none =>
    have hi : xs.length ≤ i := List.getElem?_eq_none_iff.mp hx
    rw [List.drop_of_length_le hi] at hrest
    cases hrest
    rw [List.append_nil] at hr
    subst hr
    refine .inl ⟨hstop i hi, q _ H2 (s1.trans s2) ⟨D, rfl, s1.free hD, .inl ⟨_, acc, rfl, hacc, hrp⟩⟩⟩
  | some x =>
    obtain ⟨hi, ex⟩ := List.getElem?_eq_some_iff.mp hx
    obtain ⟨hg1, hy⟩ := hgo i x hx
    rw [List.drop_eq_getElem_cons hi, ex] at hrest
    obtain ⟨cnd, h3, h4⟩ := bind1 hrest
    refine .inr ⟨hg1, fun H' => Same H1 H' ∧ ∃ (done : List τ) (acc : List V) (rest : List τ), H' D = some (.lst acc) ∧ RpA K H' (wi (un S S0) D) (done.map enc) acc ∧ done.length ≤ i + 1 ∧ compO ft fe (set γ) (xs.drop (i + 1)) = some rest ∧ done ++ rest = r, fun H' h => ⟨m - 1, by omega, h.1, by omega, h.2⟩, fun v H3 yl => ?_⟩
    obtain ⟨s3, r3⟩ := hy v H3 yl
    refine ⟨γ, un S S0, isA D, x, E2.same s3, Rp.mv (.less hT2) _ _ r3, fun σ3 E3 hw => ⟨?_, ?_⟩⟩
    · rw [hw _ hj, wipe_wipe]
    · refine ⟨_, un S S0, isA D, cnd, E3, h3, fun H4 s4 => ?_⟩
      have s34 := s3.trans s4
      have hD4 : H4 D = some (.lst acc) := s34 _ _ hacc
      have hrp4 : RpA K H4 (wi (un S S0) D) (done.map enc) acc := hrp.mv (.same s34)
      cases cnd with
      | false => exact iteF ⟨s2.trans s34, done, acc, rest, hD4, hrp4, Nat.le_succ_of_le hdl, h4, hr⟩
      | true =>
        obtain ⟨y, ys, h5, h6, h7⟩ := bind2 (show ((fe (set γ x)).bind fun y => (compO ft fe (set γ) (xs.drop (i + 1))).bind fun ys => some (y :: ys)) = some rest from h4)
        cases h7
        refine iteT ⟨_, un S S0, isA D, y, E3.same s4, h5, fun w H5 s5 r5 => ?_⟩
        have hD5 : H5 D = some (.lst acc) := s5 _ _ hD4
        have hrp5 : RpA K H5 (wi (un S S0) D) (done.map enc) acc := hrp4.mv (.same s5)
        refine ⟨acc, hD5, by rw [map_len hrp5]; omega, ?_⟩
        have mv5 : Mv (wi (un S S0) D) H5 (wi (un S S0) D) (upd H5 D (.lst (acc ++ [w]))) := fun a o h n => ⟨by rw [upd_ne fun z => n (.inr z)]; exact h, n⟩
        refine ⟨fun a o h => ?_, done ++ [y], acc ++ [w], ys, upd_same, ?_, by rw [List.length_append]; exact Nat.succ_le_succ hdl, h6, by rw [List.append_assoc]; exact hr⟩
        · rw [upd_ne (ne_of_none h hD)]
          exact (s2.trans (s34.trans s5)) a o h
        · rw [List.map_append]
          exact (hrp5.mv mv5).append (.one (Rp.mv ((Mv.less hT).trans mv5) _ _ r5))
section
variable [Enc ι] [Enc τ] {elt tg iter : Expr} {ifs : List Expr} {scope : Scope} {own : List (Str × Nat)} {fi : Γ → Option (List ι)} {set : Γ → ι → Γb} {js : List Nat} {ft : Γb → Option Bool} {fe : Γb → Option τ}
theorem pv_lc (hN : X.N.Nodup)
    (hi : IV X sl .b tg iter fi) (ok : BlkOk X.N X.env.scope scope own) (hj : ∀ i ∈ js, i ∈ own.map (·.2))
    (hg : ∀ (s : Shared) (H : Hp) (C : Addr) (cl : List (Str × Addr)) (fp : List Addr), GV (X.blk s H scope (compEnvC scope cl C X.env) fp) (fun g => wipeB (sl g) (own.map (·.2))) slb tg set js)
    (ht : ∀ (s : Shared) (H : Hp) (C : Addr) (cl : List (Str × Addr)) (fp : List Addr), PBs (X.blk s H scope (compEnvC scope cl C X.env) fp) slb ifs ft)
    (he : ∀ (s : Shared) (H : Hp) (C : Addr) (cl : List (Str × Addr)) (fp : List Addr), PV (X.blk s H scope (compEnvC scope cl C X.env) fp) slb .a elt fe) (hc : X.calm = true := by rfl) (hs : ∀ x, foldedSetIterable iter X.env x = pure x := by intro _; rfl) :
    PV X sl .f (.ListComp elt [⟨tg, iter, ifs, 0⟩] scope pos) (fun g => (fi g).bind fun xs => (lNew xs).bind fun xs => compO ft fe (set g) xs) :=
  PE.imp (pe_lc (g := tG X.K (fun g => wipeB (sl g) (own.map fun q : Str × Nat => q.2)) slb set js) (tt := tB X.K slb ft) (te := tD X.K slb .a fe) hc hN hi ok hg ht he hs) fun σ H Q h => lc_read hj h
variable [Enc ρ] {i : Nat} {y : Str} {py spos : Pos}
/-- y = [..] on one line, y owned; y shared -/
theorem sv_ownLc (st : Γ → List τ → Γ') (h : ∀ g t, sl' (st g t) = (sl g).set i (some (.o, enc t))) (hN : X.N.Nodup)
    (hi : IV X sl .b tg iter fi) (ok : BlkOk X.N X.env.scope scope own) (hj : ∀ i ∈ js, i ∈ own.map (·.2))
    (hg : ∀ (s : Shared) (H : Hp) (C : Addr) (cl : List (Str × Addr)) (fp : List Addr), GV (X.blk s H scope (compEnvC scope cl C X.env) fp) (fun g => wipeB (sl g) (own.map (·.2))) slb tg set js)
    (ht : ∀ (s : Shared) (H : Hp) (C : Addr) (cl : List (Str × Addr)) (fp : List Addr), PBs (X.blk s H scope (compEnvC scope cl C X.env) fp) slb ifs ft)
    (he : ∀ (s : Shared) (H : Hp) (C : Addr) (cl : List (Str × Addr)) (fp : List Addr), PV (X.blk s H scope (compEnvC scope cl C X.env) fp) slb .a elt fe)
    (hy : X.N[i]? = some y := by rfl) (hyl : X.env.scope.names.lookup y = some .local := by rfl)
    (hsw : swapsWith (.ListComp elt [⟨tg, iter, ifs, 0⟩] scope pos) (some (.Name y py)) spos.line X.env = pure true := by exact sw_true rfl rfl rfl (by decide +kernel)) (hc : X.calm = true := by rfl) (hs : ∀ x, foldedSetIterable iter X.env x = pure x := by intro _; rfl) :
    SV (ρ := ρ) X sl sl' kr (.Assign [.Name y py] (.ListComp elt [⟨tg, iter, ifs, 0⟩] scope pos) spos) (fun g => ((fi g).bind fun xs => (lNew xs).bind fun xs => compO ft fe (set g) xs).bind fun t => some (.nx (st g t))) :=
  PS.imp (ps_setLc (g := tG X.K (fun g => wipeB (sl g) (own.map fun q : Str × Nat => q.2)) slb set js) (tt := tB X.K slb ft) (te := tD X.K slb .a fe) hc hN hy hyl hsw hi ok hg ht he hs) fun D σ H ⟨γ, S0, S, o, E, hf, p⟩ => by
    obtain ⟨t, e1, e2⟩ := bind1 hf
    cases e2
    refine lc_read hj ⟨γ, S0, S, t, E, e1, fun v H' s r => ?_⟩
    obtain ⟨S', m, E'⟩ := E.seto (i := i) s r
    refine p _ _ S' ?_ m
    rw [h]
    exact E'
theorem sv_setLc (st : Γ → List τ → Γ') (h : ∀ g t, sl' (st g t) = (sl g).set i (some (.a, enc t))) (hN : X.N.Nodup)
    (hi : IV X sl .b tg iter fi) (ok : BlkOk X.N X.env.scope scope own) (hj : ∀ i ∈ js, i ∈ own.map (·.2))
    (hg : ∀ (s : Shared) (H : Hp) (C : Addr) (cl : List (Str × Addr)) (fp : List Addr), GV (X.blk s H scope (compEnvC scope cl C X.env) fp) (fun g => wipeB (sl g) (own.map (·.2))) slb tg set js)
    (ht : ∀ (s : Shared) (H : Hp) (C : Addr) (cl : List (Str × Addr)) (fp : List Addr), PBs (X.blk s H scope (compEnvC scope cl C X.env) fp) slb ifs ft)
    (he : ∀ (s : Shared) (H : Hp) (C : Addr) (cl : List (Str × Addr)) (fp : List Addr), PV (X.blk s H scope (compEnvC scope cl C X.env) fp) slb .a elt fe)
    (hy : X.N[i]? = some y := by rfl) (hyl : X.env.scope.names.lookup y = some .local := by rfl)
    (hsw : swapsWith (.ListComp elt [⟨tg, iter, ifs, 0⟩] scope pos) (some (.Name y py)) spos.line X.env = pure true := by exact sw_true rfl rfl rfl (by decide +kernel)) (hc : X.calm = true := by rfl) (hs : ∀ x, foldedSetIterable iter X.env x = pure x := by intro _; rfl) :
    SV (ρ := ρ) X sl sl' kr (.Assign [.Name y py] (.ListComp elt [⟨tg, iter, ifs, 0⟩] scope pos) spos) (fun g => ((fi g).bind fun xs => (lNew xs).bind fun xs => compO ft fe (set g) xs).bind fun t => some (.nx (st g t))) :=
  PS.imp (ps_setLc (g := tG X.K (fun g => wipeB (sl g) (own.map fun q : Str × Nat => q.2)) slb set js) (tt := tB X.K slb ft) (te := tD X.K slb .a fe) hc hN hy hyl hsw hi ok hg ht he hs) fun D σ H ⟨γ, S0, S, o, E, hf, p⟩ => by
    obtain ⟨t, e1, e2⟩ := bind1 hf
    cases e2
    refine lc_read hj ⟨γ, S0, S, t, E, e1, fun v H' s r => ?_⟩
    refine p _ _ S ?_ (.same s)
    rw [h]
    exact (E.same s).seta (Fr.rp r E.dT)
end
/-! ### two clauses -/
def compO2 {Γc : Type} {κ : Type} (t : Γb → Option Bool) (it1 : Γb → Option (List κ)) (t1 : Γc → Option Bool) (f : Γc → Option τ) (set : ι → Γb) (set1 : Γb → κ → Γc) : List ι → Option (List τ)
  | [] => some []
  | x :: xs => (t (set x)).bind fun c => if c = true then (it1 (set x)).bind fun ys => (compO t1 f (set1 (set x)) ys).bind fun zs => (compO2 t it1 t1 f set set1 xs).bind fun r => some (zs ++ r) else compO2 t it1 t1 f set set1 xs
theorem lc2_read {κ : Type} [Enc ι] [Enc κ] [Enc τ] {K : PySem.W.Frag} {vs vs1 : List Nat} {fi : Γ → Option (List ι)} {set : Γ → ι → Γb} {js js1 : List Nat} {ft : Γb → Option Bool} {fi1 : Γb → Option (List κ)} {set1 : Γb → κ → Γc} {ft1 : Γc → Option Bool} {fe : Γc → Option τ} (hj : ∀ i ∈ js, i ∈ vs) (hj1 : ∀ i ∈ js1, i ∈ vs1) (hno : ∀ (g : Γb) (i : Nat) (d : PyData), (slb g)[i]? ≠ some (some (.o, d))) {σ : L2.St} {H : Hp} {Q : VK}
    (h : tD K sl .f (fun g => ((fi g).bind fun xs => compO2 ft fi1 ft1 fe (set g) set1 xs).bind fun r => lNew r) σ H Q) :
    tLc2 (tI K sl .b fi) (tG K (fun g => wipeB (sl g) vs) slb set js) (tB K slb ft) (tI K slb .a fi1) (tG K (fun g => wipeB (slb g) vs1) slc set1 js1) (tB K slc ft1) (tD K slc .a fe) vs vs1 σ H Q := by
  obtain ⟨γ, S0, S, r, E, hf, q⟩ := h
  obtain ⟨r', e0, e9⟩ := bind1 hf
  obtain ⟨hz, rfl⟩ := if_some e9
  obtain ⟨xs, e1, e4⟩ := bind1 e0
  refine ⟨γ, S0, S, xs, E, e1, fun J H1 s1 ok => fun D hD => ?_⟩
  have E1 := E.same s1
  have mvD : ∀ H2, Same H1 H2 → Mv S H1 (wi S D) H2 := fun H2 s2 => fun a o h n => ⟨s2 a o h, fun z => z.elim n (ne_of_none h hD)⟩
  have hT : ∀ a, wi (un S S0) D a → un (isA D) (un S S0) a := fun a z => z.elim .inr .inl
  have hT2 : ∀ a, un (isA D) (un S S0) a → un (wi S D) S0 a := fun a z => by
    rcases z with z | z | z
    · exact .inl (.inr z)
    · exact .inl (.inl z)
    · exact .inr z
  refine ⟨fun i m H2 => Same H1 H2 ∧ i + m = xs.length ∧ ∃ (done : List τ) (acc : List V) (rest : List τ), H2 D = some (.lst acc) ∧ RpA K H2 (wi (un S S0) D) (done.map enc) acc ∧ compO2 ft fi1 ft1 fe (set γ) set1 (xs.drop i) = some rest ∧ done ++ rest = r',
    ⟨xs.length, same_new hD, Nat.zero_add _, [], [], r', upd_same, rfl, e4, rfl⟩, ?_⟩
  rintro i m H2 ⟨s2, him, done, acc, rest, hacc, hrp, hrest, hr⟩
  have E2 := E1.into s2 hD (by rw [hacc]; simp) vs
  obtain ⟨hstop, hgo⟩ := ok (wi S D) H2 (mvD H2 s2) (fun _ => s2) (fun a z => E2.dT a (by
    rcases z with (z | z) | z
    · exact .inr (.inl z)
    · exact .inl z
    · exact .inr (.inr z)))
  cases hx : xs[i]? with
  | none =>
    have hi : xs.length ≤ i := List.getElem?_eq_none_iff.mp hx
    rw [List.drop_of_length_le hi] at hrest
    cases hrest
    rw [List.append_nil] at hr
    subst hr
    refine .inl ⟨hstop i hi, q _ H2 (s1.trans s2) ⟨D, rfl, s1.free hD, .inl ⟨_, acc, rfl, hacc, hrp⟩⟩⟩
  | some x =>
    obtain ⟨hi, ex⟩ := List.getElem?_eq_some_iff.mp hx
    obtain ⟨hg1, hy⟩ := hgo i x hx
    rw [List.drop_eq_getElem_cons hi, ex] at hrest
    obtain ⟨cnd, h3, h4⟩ := bind1 hrest
    refine .inr ⟨hg1, fun H' => Same H1 H' ∧ ∃ (done : List τ) (acc : List V) (rest : List τ), H' D = some (.lst acc) ∧ RpA K H' (wi (un S S0) D) (done.map enc) acc ∧ compO2 ft fi1 ft1 fe (set γ) set1 (xs.drop (i + 1)) = some rest ∧ done ++ rest = r', fun H' h => ⟨m - 1, by omega, h.1, by omega, h.2⟩, fun v H3 yl => ?_⟩
    obtain ⟨s3, r3⟩ := hy v H3 yl
    refine ⟨γ, un S S0, isA D, x, E2.same s3, Rp.mv (.less hT2) _ _ r3, fun σ3 E3 hw => ⟨?_, ?_⟩⟩
    · rw [hw _ hj, wipe_wipe]
    · refine ⟨_, un S S0, isA D, cnd, E3, h3, fun H4 s4 => ?_⟩
      have s34 := s3.trans s4
      have hD4 : H4 D = some (.lst acc) := s34 _ _ hacc
      have hrp4 : RpA K H4 (wi (un S S0) D) (done.map enc) acc := hrp.mv (.same s34)
      cases cnd with
      | false => exact iteF ⟨s2.trans s34, done, acc, rest, hD4, hrp4, h4, hr⟩
      | true =>
        obtain ⟨ys, h5, h4⟩ := bind1 (show ((fi1 (set γ x)).bind fun ys => (compO ft1 fe (set1 (set γ x)) ys).bind fun zs => (compO2 ft fi1 ft1 fe (set γ) set1 (xs.drop (i + 1))).bind fun r => some (zs ++ r)) = some rest from h4)
        obtain ⟨zs, rr, h6, h8, h9⟩ := bind2 h4
        cases h9
        refine iteT ⟨_, un S S0, isA D, ys, E3.same s4, h5, fun J1 H5 s5 ok1 => ?_⟩
        have hD5 : H5 D = some (.lst acc) := s5 _ _ hD4
        have hrp5 : RpA K H5 (wi (un S S0) D) (done.map enc) acc := hrp4.mv (.same s5)
        have E5 := (E3.same s4).same s5
        have s15 : Same H1 H5 := s2.trans (s34.trans s5)
        -- the inner walk: H5 and what D grew by
        refine ⟨fun j m H6 => Mv (isA D) H5 (isA D) H6 ∧ Same H1 H6 ∧ (∀ a, H5 a ≠ none → H6 a ≠ none) ∧ j + m = ys.length ∧ ∃ (dn : List τ) (ac : List V) (rs : List τ), H6 D = some (.lst ac) ∧ RpA K H6 (wi (un S S0) D) (dn.map enc) ac ∧ compO ft1 fe (set1 (set γ x)) (ys.drop j) = some rs ∧ dn ++ rs ++ rr = r' ∧ EnvS K (un S S0) (isA D) H6 (slb (set γ x)) σ3,
          ⟨ys.length, .refl, s15, fun _ z => z, Nat.zero_add _, done, acc, zs, hD5, hrp5, h6, by rw [List.append_assoc]; exact hr, E5⟩, ?_⟩
        rintro j m1 H6 ⟨mv6, s6, nn6, hjm, dn, ac, rs, hD6, hrp6, hrs, hr6, E6⟩
        obtain ⟨hstop1, hgo1⟩ := ok1 (isA D) H6 mv6 (fun z => nomatch z) E6.dT
        cases hy1 : ys[j]? with
        | none =>
          have hi1 : ys.length ≤ j := List.getElem?_eq_none_iff.mp hy1
          rw [List.drop_of_length_le hi1] at hrs
          cases hrs
          exact .inl ⟨hstop1 j hi1, s6, dn, ac, rr, hD6, hrp6, h8, by rw [List.append_nil] at hr6; exact hr6⟩
        | some y =>
          obtain ⟨hi1, ey⟩ := List.getElem?_eq_some_iff.mp hy1
          obtain ⟨hg2, hy2⟩ := hgo1 j y hy1
          rw [List.drop_eq_getElem_cons hi1, ey] at hrs
          obtain ⟨cn1, k3, k4⟩ := bind1 hrs
          refine .inr ⟨hg2, fun H' => Mv (isA D) H5 (isA D) H' ∧ Same H1 H' ∧ (∀ a, H5 a ≠ none → H' a ≠ none) ∧ ∃ (dn : List τ) (ac : List V) (rs : List τ), H' D = some (.lst ac) ∧ RpA K H' (wi (un S S0) D) (dn.map enc) ac ∧ compO ft1 fe (set1 (set γ x)) (ys.drop (j + 1)) = some rs ∧ dn ++ rs ++ rr = r' ∧ EnvS K (un S S0) (isA D) H' (slb (set γ x)) σ3, fun H' h => ⟨m1 - 1, by omega, h.1, h.2.1, h.2.2.1, by omega, h.2.2.2⟩, fun v H7 yl => ?_⟩
          obtain ⟨s7, r7⟩ := hy2 v H7 yl
          have E7 := E6.same s7
          refine ⟨_, un S S0, isA D, y, E7.wipeB vs1 (hno _), r7, fun σ8 E8 hw1 => ⟨?_, ?_⟩⟩
          · rw [hw1 _ hj1, wipe_wipe]
          · refine ⟨_, un S S0, isA D, cn1, E8, k3, fun H8 s8 => ?_⟩
            have s78 := s7.trans s8
            have hD8 : H8 D = some (.lst ac) := s78 _ _ hD6
            have hrp8 : RpA K H8 (wi (un S S0) D) (dn.map enc) ac := hrp6.mv (.same s78)
            cases cn1 with
            | false => exact iteF ⟨mv6.trans (.same s78), s6.trans s78, fun a z => nn_same s78 (nn6 a z), dn, ac, rs, hD8, hrp8, k4, hr6, E6.same s78⟩
            | true =>
              obtain ⟨t, ts, k5, k6, k7⟩ := bind2 (show ((fe (set1 (set γ x) y)).bind fun y => (compO ft1 fe (set1 (set γ x)) (ys.drop (j + 1))).bind fun ys => some (y :: ys)) = some rs from k4)
              cases k7
              refine iteT ⟨_, un S S0, isA D, t, E8.same s8, k5, fun u H9 s9 r9 => ?_⟩
              have s69 := s78.trans s9
              have hD9 : H9 D = some (.lst ac) := s9 _ _ hD8
              have hrp9 : RpA K H9 (wi (un S S0) D) (dn.map enc) ac := hrp8.mv (.same s9)
              refine ⟨ac, hD9, ?_, ?_⟩
              · rw [map_len hrp9]
                have : r'.length ≤ sizeLine := hz
                rw [← hr6] at this
                simp only [List.length_append, List.length_cons] at this
                omega
              · have mvA : Mv (wi (un S S0) D) H9 (wi (un S S0) D) (upd H9 D (.lst (ac ++ [u]))) := fun a o h n => ⟨by rw [upd_ne fun z => n (.inr z)]; exact h, n⟩
                have mvB : Mv (isA D) H9 (isA D) (upd H9 D (.lst (ac ++ [u]))) := fun a o h n => ⟨by rw [upd_ne n]; exact h, n⟩
                have s1' : Same H1 (upd H9 D (.lst (ac ++ [u]))) := fun a o h => by
                  rw [upd_ne (ne_of_none h hD)]
                  exact (s6.trans s69) a o h
                refine ⟨(mv6.trans (.same s69)).trans mvB, s1', fun a z => ?_, dn ++ [t], ac ++ [u], ts, upd_same, ?_, k6, by simpa using hr6, ?_⟩
                · by_cases ha : a = D
                  · subst ha; rw [upd_same]; simp
                  · rw [upd_ne ha]; exact nn_same s69 (nn6 a z)
                · rw [List.map_append]
                  exact (hrp9.mv mvA).append (.one (Rp.mv ((Mv.less hT).trans mvA) _ _ r9))
                · exact (E6.same s69).upA (hno _)
end PL

/-! PL8: defs and their calls. -/
namespace PL
open PySem PySem.Spec L2
open Enc (enc)

variable {Γ Γ' Γ'' ρ τ α β A B : Type} {X : Cx} {sl : Γ → Sl} {sl' : Γ' → Sl} {e : Expr} {es : List Expr} {k1 : Kd} {pos : Pos} {kr : Kd}

/-- a def's promise: the plain function F of its arguments; sl0 tells the arguments' slots -/
def spF [Enc ρ] (K : PySem.W.Frag) (N : List Str) (n : Nat) (sl0 : A → Sl) (kr : Kd) (F : A → Option ρ) : Sp := fun vs H Q _ =>
  vs.length = n ∧ ∃ (g : A) (S0 : Ad) (r : ρ), EnvS K S0 no H (sl0 g) (L2.start N vs) ∧ F g = some r ∧ ∀ v H', RetV kr K S0 no H H' (enc r) v → Q v H'
/-- what a body's plain reading gives its caller -/
def outF (d : Option ρ) (x : Option (Out Γ ρ)) : Option ρ := x.bind fun o => match o with
  | .rt r => some r
  | .nx _ => d
section
variable {P : Program} {w : World} {K : PySem.W.Frag} {mg : Str → Option Value} {base : Heap}
theorem fn_v [Enc ρ] {x qual : Str} {st : Stmt} {f : Addr} {fd : FuncData} {N ps : List Str} {k n : Nat} {sl0 : A → Sl} {slE : Γ → Sl} {fb : A → Option (Out Γ ρ)} {F : A → Option ρ} (dn : Option ρ) (Fn : Fun K x qual st f fd) (S : FnScope N ps (defScope st)) (hn : ps.length = n := by rfl)
    (hdn : ∀ r, dn = some r → enc r = .none) (hk : kr = .a ∨ kr = .f ∧ dn = none)
    (hF : ∀ g, F g = outF dn (fb g))
    (hb : ∀ (cdv : Value) (A : Around) (outer : List Env) (s : Shared) (H : Hp) (E : XK), Room k (A.deeper (PyProof.Rows.envOfC qual (defScope st) s.heap.objs.size f cdv)) →
      BV (cxOf CX0 P w K mg base N qual (defScope st) f cdv A outer s H E).nox sl0 slE kr (defBody st) fb) :
    FnOk P w K mg base CX0 (k + 1) f fd ps (spF K N n sl0 kr F) := by
  refine Fn.ok S (fun vs H Q E h => h.1.trans hn.symm) fun cdv A outer s H vs Q E hr h => ?_
  obtain ⟨hl, g, S0, r, En, hFr, q⟩ := h
  refine ⟨_, hb cdv A outer s H E hr, ?_⟩
  rw [hF] at hFr
  obtain ⟨o, h1, h2⟩ := bind1 hFr
  refine ⟨g, S0, no, o, En, h1, ?_⟩
  cases o with
  | rt r' =>
    cases h2
    exact q
  | nx g' =>
    have h2 : dn = some r := h2
    rcases hk with rfl | ⟨_, e⟩
    · exact fun σ' H' S' _ m => q .non H' ⟨m.no, by rw [hdn r h2]; rfl⟩
    · rw [e] at h2; cases h2
/-- a def that is never called with arguments for which F is told -/
theorem fn_none [Enc ρ] {f : Addr} {fd : FuncData} {N ps : List Str} {k n : Nat} {sl0 : A → Sl} {CX : CXT} (hn : ps.length = n := by rfl) : FnOk P w K mg base CX k f fd ps (spF K N n sl0 kr (fun _ : A => (none : Option ρ))) :=
  ⟨fun vs H Q E h => h.1.trans hn.symm, fun A outer s H args us vs Q E _ _ _ _ h => by
    obtain ⟨_, _, _, _, _, h, _⟩ := h
    cases h⟩
end

/-! ### arguments -/
def ArgV (K : PySem.W.Frag) (H : Hp) (T : Ad) : Mo → PyData → V → Prop
  | .a, d, v => Rp K H T d v
  | .b, d, v => Rb K H T d v
  | .o, _, _ => False
def ArgsR (K : PySem.W.Frag) (H : Hp) (T : Ad) : List Mo → List PyData → List V → Prop
  | [], [], [] => True
  | m :: ms, d :: ds, v :: vs => ArgV K H T m d v ∧ ArgsR K H T ms ds vs
  | _, _, _ => False
theorem ArgV.same {K : PySem.W.Frag} {H H' : Hp} {T : Ad} {m : Mo} {d : PyData} {v : V} (s : Same H H') (h : ArgV K H T m d v) : ArgV K H' T m d v := by
  cases m with
  | a => exact Rp.mv (.same s) _ _ h
  | b => exact Rb.mv (.same s) h s
  | o => exact h
def slOf : List Mo → List PyData → Sl
  | m :: ms, d :: ds => some (m, d) :: slOf ms ds
  | _, _ => []
theorem env_start {K : PySem.W.Frag} {H : Hp} {T : Ad} {ms : List Mo} {ds : List PyData} {vs : List V} {N : List Str} {j : Nat} (h : ArgsR K H T ms ds vs) (hT : ∀ a, T a → H a ≠ none) (hN : N.length = ms.length + j) :
    EnvS K T no H (slOf ms ds ++ List.replicate j none) (L2.start N vs) ∧ vs.length = ms.length := by
  have len : ∀ {ms : List Mo} {ds : List PyData} {vs : List V}, ArgsR K H T ms ds vs → vs.length = ms.length ∧ (slOf ms ds).length = ms.length := by
    intro ms
    induction ms with
    | nil =>
      intro ds vs h
      cases ds <;> cases vs <;> simp [ArgsR] at h
      exact ⟨rfl, rfl⟩
    | cons m ms ih =>
      intro ds vs h
      cases ds with
      | nil => simp [ArgsR] at h
      | cons d ds =>
        cases vs with
        | nil => simp [ArgsR] at h
        | cons v vs =>
          obtain ⟨h1, h2⟩ := ih h.2
          exact ⟨by simp [h1], by simp [slOf, h2]⟩
  have get : ∀ {ms : List Mo} {ds : List PyData} {vs : List V} {i : Nat} {m : Mo} {d : PyData}, ArgsR K H T ms ds vs → (slOf ms ds)[i]? = some (some (m, d)) → ∃ v, vs[i]? = some v ∧ ArgV K H T m d v := by
    intro ms
    induction ms with
    | nil => intro ds vs i m d h e; simp [slOf] at e
    | cons m0 ms ih =>
      intro ds vs i m d h e
      cases ds with
      | nil => simp [ArgsR] at h
      | cons d0 ds =>
        cases vs with
        | nil => simp [ArgsR] at h
        | cons v vs =>
          cases i with
          | zero =>
            have e : some (some (m0, d0)) = some (some (m, d)) := e
            cases e
            exact ⟨v, rfl, h.1⟩
          | succ i => exact ih (ds := ds) (vs := vs) (i := i) h.2 e
  obtain ⟨l1, l2⟩ := len h
  have at2 : ∀ {i : Nat} {m : Mo} {d : PyData}, (slOf ms ds ++ List.replicate j none)[i]? = some (some (m, d)) → ∃ v, (L2.start N vs)[i]? = some (some v) ∧ ArgV K H T m d v := fun {i m d} e => by
    by_cases hi : i < (slOf ms ds).length
    · rw [List.getElem?_append_left hi] at e
      obtain ⟨v, h1, h2⟩ := get h e
      refine ⟨v, ?_, h2⟩
      unfold L2.start
      rw [List.getElem?_append_left (by simp; omega), List.getElem?_map, h1]
      rfl
    · rw [List.getElem?_append_right (by omega), List.getElem?_replicate] at e
      split at e <;> cases e
  have hno : ∀ {d : PyData} {v : V}, Rp K H T d v → Rp K H (un no T) d v := fun h => Rp.mv (.less fun a z => z.elim False.elim id) _ _ h
  have hnoA : ∀ {d : List PyData} {v : List V}, RpA K H T d v → RpA K H (un no T) d v := fun h => RpA.mv (.less fun a z => z.elim False.elim id) _ _ h
  have hnoK : ∀ {d : List (PyData × PyData)} {v : List (Key × V)}, RpK K H T d v → RpK K H (un no T) d v := fun h => RpK.mv (.less fun a z => z.elim False.elim id) _ _ h
  refine ⟨⟨?_, fun a z => z.elim, hT, fun a z => z.elim, fun i m d e => ?_, fun i i' d d' v _ e _ _ => ?_⟩, l1⟩
  · unfold L2.start
    simp
    omega
  · obtain ⟨v, h1, h2⟩ := at2 e
    refine ⟨v, h1, ?_⟩
    cases m with
    | a => exact hno h2
    | b =>
      rcases h2 with h2 | ⟨ds, a, xs, e1, e2, e3, e4⟩ | ⟨ds, a, xs, e1, e2, e3, e4⟩
      · exact .inl (hno h2)
      · exact .inr (.inl ⟨ds, a, xs, e1, e2, ⟨e3, fun z => z⟩, hnoA e4⟩)
      · exact .inr (.inr ⟨ds, a, xs, e1, e2, ⟨e3, fun z => z⟩, hnoK e4⟩)
    | o => exact h2.elim
  · obtain ⟨_, _, h2⟩ := at2 e
    exact h2.elim
def tAg (K : PySem.W.Frag) (sl : Γ → Sl) (ms : List Mo) (en : A → List PyData) (f : Γ → Option A) : TA := fun σ H Q =>
  ∃ (g : Γ) (S0 S : Ad) (t : A), EnvS K S0 S H (sl g) σ ∧ f g = some t ∧ ∀ vs H', Same H H' → ArgsR K H' (un S S0) ms (en t) vs → Q vs H'
def AV (X : Cx) (sl : Γ → Sl) (ms : List Mo) (es : List Expr) (en : A → List PyData) (f : Γ → Option A) : Prop := PA X es (tAg X.K sl ms en f)
theorem ArgsR.same {K : PySem.W.Frag} {H H' : Hp} {T : Ad} (s : Same H H') : ∀ {ms : List Mo} {ds : List PyData} {vs : List V}, ArgsR K H T ms ds vs → ArgsR K H' T ms ds vs
  | [], [], [], h => h
  | m :: ms, d :: ds, v :: vs, h => ⟨h.1.same s, ArgsR.same s h.2⟩
theorem av_nil : AV X sl [] [] (fun _ : Unit => []) (fun _ => some ()) := PA.imp pa_nil fun σ H Q ⟨g, S0, S, t, E, hf, q⟩ => q [] H (Same.refl H) trivial
section
variable [Enc τ] {f : Γ → Option τ} {g : Γ → Option A} {ms : List Mo} {en : A → List PyData}
theorem av_a (h : PV X sl .a e f) (hr : AV X sl ms es en g) (hs : starEach (e :: es) X.env = (false, eval e X.env) :: starEach es X.env := by rfl) :
    AV X sl (.a :: ms) (e :: es) (fun t : τ × A => enc t.1 :: en t.2) (fun s => (f s).bind fun x => (g s).bind fun r => some (x, r)) := PA.imp (pa_cons h hr hs) fun σ H Q ⟨γ, S0, S, t, E, hf, q⟩ => by
  obtain ⟨x, r, h1, h2, h3⟩ := bind2 hf
  cases h3
  exact ⟨γ, S0, S, x, E, h1, fun v H1 s1 r1 => ⟨γ, S0, S, r, E.same s1, h2, fun vs H2 s2 r2 => q _ H2 (s1.trans s2) ⟨ArgV.same (m := .a) s2 r1, r2⟩⟩⟩
theorem av_b (h : PV X sl .b e f) (hr : AV X sl ms es en g) (hs : starEach (e :: es) X.env = (false, eval e X.env) :: starEach es X.env := by rfl) :
    AV X sl (.b :: ms) (e :: es) (fun t : τ × A => enc t.1 :: en t.2) (fun s => (f s).bind fun x => (g s).bind fun r => some (x, r)) := PA.imp (pa_cons h hr hs) fun σ H Q ⟨γ, S0, S, t, E, hf, q⟩ => by
  obtain ⟨x, r, h1, h2, h3⟩ := bind2 hf
  cases h3
  exact ⟨γ, S0, S, x, E, h1, fun v H1 s1 r1 => ⟨γ, S0, S, r, E.same s1, h2, fun vs H2 s2 r2 => q _ H2 (s1.trans s2) ⟨ArgV.same (m := .b) s2 r1, r2⟩⟩⟩
end
section
variable [Enc ρ] {k n : Nat} {f : Addr} {fd : FuncData} {ps N : List Str} {x : Str} {p : Pos} {F : A → Option ρ} {sl0 : A → Sl} {g : Γ → Option A} {ms : List Mo} {en : A → List PyData}
theorem ret_a {K : PySem.W.Frag} {T : Ad} {H H' : Hp} {d : PyData} {v : V} (h : RetV .a K T no H H' d v) : Same H H' ∧ Rp K H' T d v := ⟨fun a o e => (h.1 a o e (fun z => z)).1, h.2⟩
theorem ret_f {K : PySem.W.Frag} {T : Ad} {H H' : Hp} {d : PyData} {v : V} (h : RetV .f K T no H H' d v) : Same H H' ∧ Fr K H H' T d v := by
  refine ⟨fun a o e => (h.1 a o e (fun z => z)).1, ?_⟩
  obtain ⟨p, rfl, h1, h2, h3⟩ := h.2
  refine ⟨p, rfl, ?_, h3⟩
  cases hq : H p with
  | none => rfl
  | some o => exact (h1 (by rw [hq]; simp)).elim
theorem pv_calla (G : FnOk X.prog X.w X.K X.mg X.base CX0 k f fd ps (spF X.K N n sl0 .a F)) (hr : Room k X.A) (hg : Gl X x) (hm : X.mg x = some (.ref f)) (hk : PySem.W.keepIn X.K (.ref f) = true) (hb : Binds X.K fd ps []) (ha : AV X sl ms (e :: es) en g)
    (h0 : ∀ t, ∃ j, sl0 t = slOf ms (en t) ++ List.replicate j none ∧ N.length = ms.length + j) (hn : ms.length = n := by rfl) (hdb : (x == ("__debug__" : Str)) = false := by decide)
    (he : starEach (e :: es) X.env = (false, eval e X.env) :: starEach es X.env := by rfl) (hpl : (backTo pos (starEach es X.env)).any (·.1) = false := by rfl) :
    PV X sl .a (.Call (.Name x p) (e :: es) [] pos) (fun s => (g s).bind fun t => F t) := PE.imp (pe_call (E := E0) G hr hg hm hk hb .nil pass0 ha hdb he hpl) fun σ H Q ⟨γ, S0, S, r, E, hf, q⟩ => by
  obtain ⟨t, h1, h2⟩ := bind1 hf
  refine ⟨γ, S0, S, t, E, h1, fun vs H1 s1 r1 => ?_⟩
  obtain ⟨j, e1, e2⟩ := h0 t
  obtain ⟨E2, hl⟩ := env_start r1 (E.same s1).dT e2
  rw [List.append_nil]
  refine ⟨hl.trans hn, t, _, r, by rw [e1]; exact E2, h2, fun v H' rv => ?_⟩
  obtain ⟨s2, r2⟩ := ret_a rv
  exact q v H' (s1.trans s2) r2
theorem pv_callf (G : FnOk X.prog X.w X.K X.mg X.base CX0 k f fd ps (spF X.K N n sl0 .f F)) (hr : Room k X.A) (hg : Gl X x) (hm : X.mg x = some (.ref f)) (hk : PySem.W.keepIn X.K (.ref f) = true) (hb : Binds X.K fd ps []) (ha : AV X sl ms (e :: es) en g)
    (h0 : ∀ t, ∃ j, sl0 t = slOf ms (en t) ++ List.replicate j none ∧ N.length = ms.length + j) (hn : ms.length = n := by rfl) (hdb : (x == ("__debug__" : Str)) = false := by decide)
    (he : starEach (e :: es) X.env = (false, eval e X.env) :: starEach es X.env := by rfl) (hpl : (backTo pos (starEach es X.env)).any (·.1) = false := by rfl) :
    PV X sl .f (.Call (.Name x p) (e :: es) [] pos) (fun s => (g s).bind fun t => F t) := PE.imp (pe_call (E := E0) G hr hg hm hk hb .nil pass0 ha hdb he hpl) fun σ H Q ⟨γ, S0, S, r, E, hf, q⟩ => by
  obtain ⟨t, h1, h2⟩ := bind1 hf
  refine ⟨γ, S0, S, t, E, h1, fun vs H1 s1 r1 => ?_⟩
  obtain ⟨j, e1, e2⟩ := h0 t
  obtain ⟨E2, hl⟩ := env_start r1 (E.same s1).dT e2
  rw [List.append_nil]
  refine ⟨hl.trans hn, t, _, r, by rw [e1]; exact E2, h2, fun v H' rv => ?_⟩
  obtain ⟨s2, r2⟩ := ret_f rv
  exact q v H' (s1.trans s2) (r2.back s1)
theorem pv_call0 {F : Unit → Option ρ} {sl0 : Unit → Sl} (G : FnOk X.prog X.w X.K X.mg X.base CX0 k f fd ps (spF X.K N 0 sl0 .a F)) (hr : Room k X.A) (hg : Gl X x) (hm : X.mg x = some (.ref f)) (hk : PySem.W.keepIn X.K (.ref f) = true) (hb : Binds X.K fd ps [])
    (h0 : ∃ j, sl0 () = List.replicate j none ∧ N.length = j) (hdb : (x == ("__debug__" : Str)) = false := by decide) :
    PV X sl .a (.Call (.Name x p) [] [] pos) (fun s => F ()) := PE.imp (pe_call0 (E := E0) G hr hg hm hk hb .nil pass0 hdb) fun σ H Q ⟨γ, S0, S, r, E, hf, q⟩ => by
  obtain ⟨j, e1, e2⟩ := h0
  obtain ⟨E2, hl⟩ := env_start (K := X.K) (H := H) (ms := []) (ds := []) (vs := []) (T := un S S0) (j := j) (N := N) trivial E.dT (by rw [e2]; simp)
  refine ⟨rfl, (), _, r, by rw [e1]; exact E2, hf, fun v H' rv => ?_⟩
  obtain ⟨s2, r2⟩ := ret_a rv
  exact q v H' s2 r2
end
/-- more turns than any loop takes -/
def FUEL : Nat := 18446744073709551616
theorem hu64 {k : Nat} {A : Around} (hr : Room k A) : A.units + 64 < cLine := hr.units
theorem hu65 {k : Nat} {A : Around} (hr : Room k A) : A.units + 65 < cLine := by have := hr.un; omega
/-- another type for the same data -/
theorem PV.co [Enc α] [Enc β] {f : Γ → Option α} {k : Kd} (h : α → β) (p : ∀ t, enc (h t) = enc t) (he : PV X sl k e f) : PV X sl k e (fun s => (f s).bind fun t => some (h t)) := PE.imp he fun σ H Q ⟨g, S0, S, t, E, hf, q⟩ => by
  obtain ⟨u, h1, h2⟩ := bind1 hf
  cases h2
  exact ⟨g, S0, S, u, E, h1, fun v H' s r => q v H' s (by rw [p]; exact r)⟩
theorem co_some [Enc α] [Enc β] {h : α → β} (p : ∀ t, enc (h t) = enc t) (t : α) : enc (some (h t)) = enc t := p t
theorem co_map [Enc α] [Enc β] {h : α → β} (p : ∀ t, enc (h t) = enc t) (t : List α) : enc (t.map h) = enc t := by
  show PyData.list _ = PyData.list _
  rw [List.map_map]
  congr 1
  exact List.map_congr_left fun x _ => p x
theorem piv_varb {ι : Type} [Enc ι] {tg : Expr} {i : Nat} {x : Str} (p : Γ → List ι) (h : ∀ g, (sl g)[i]? = some (some (.b, enc (p g)))) (hN : X.N[i]? = some x := by rfl)
    (hv : Vis X.env.scope x := by first | exact Or.inl rfl | exact Or.inr (Or.inl rfl) | exact Or.inr (Or.inr rfl)) (hd : (x == ("__debug__" : Str)) = false := by decide) (hcd : (x == ("__classdict__" : Str)) = false := by decide) :
    IV X sl .a tg (.Name x pos) (fun g => some (p g)) := PI.imp (pi_list (pe_var (i := i) hN hv hd hcd)) fun σ H R ⟨g, S0, S, xs, E, hf, q⟩ => by
  cases hf
  obtain ⟨v, h1, h2⟩ := E.at_ i _ _ (h g)
  refine ⟨v, h1, ?_⟩
  rcases h2 with h2 | ⟨ds, a, vs, e1, rfl, h3, h4⟩ | ⟨_, _, _, e1, _⟩
  · obtain ⟨a, vs, rfl, h3, h4⟩ := h2
    exact ⟨a, rfl, ⟨vs, h3.sq⟩, q _ H (Same.refl H) (ok_list (fun S2 H2 m _ => (h3.mv m.un).sq) h4)⟩
  · cases e1
    exact ⟨a, rfl, ⟨vs, .inl h3.1⟩, q _ H (Same.refl H) (ok_list (fun S2 H2 m _ => .inl (rd_mv m h3).1) h4)⟩
  · cases e1
end PL

/-! PL9: more known functions. -/
namespace PL
open PySem PySem.Spec L2
open Enc (enc)
variable {Γ Γ' Γ'' ρ τ α β γ' A B : Type} {X : Cx} {sl : Γ → Sl} {sl' : Γ' → Sl} {e a b c : Expr} {es : List Expr} {k k1 : Kd} {pos : Pos} {kr : Kd}
theorem pv_gcd' {fa fb : Γ → Option Int} {p : Pos} (hg : Gl X "gcd") (hm : X.mg "gcd" = some (.builtin "math.gcd")) (ha : PV X sl .b a fa) (hb : PV X sl .b b fb) (he : starEach [a, b] X.env = (false, eval a X.env) :: starEach [b] X.env := by rfl) (he2 : starEach [b] X.env = (false, eval b X.env) :: starEach [] X.env := by rfl) (hpl : (backTo pos (starEach [b] X.env)).any (·.1) = false := by rfl) :
    PV X sl .a (.Call (.Name "gcd" p) [a, b] [] pos) (fun s => (fa s).bind fun x => (fb s).bind fun y => some ((Nat.gcd x.natAbs y.natAbs : Nat) : Int)) :=
  pv_c2 (fun h1 h2 => pe_callBfun cr_gcd hg hm (pa_cons h1 (pa_cons h2 pa_nil he2) he) (he := he) (hpl := hpl)) (fun T H x y u w t Q hT r1 r2 e q => by
    cases e
    exact ⟨u, w, by rw [rb_i r1, rb_i r2], q _ H (Same.refl H) rfl⟩) ha hb
/-- a, b, c = x, y, z: three local names -/
theorem sv_par3 [Enc ρ] [Enc α] [Enc β] [Enc γ'] {i j l : Nat} {x y z : Str} {px py pz pt : Pos} {kt k2 : Nat} {pt2 : Pos} {fa : Γ → Option α} {fb : Γ → Option β} {fc : Γ → Option γ'} (set : Γ → α → β → γ' → Γ') (h : ∀ g t u v, sl' (set g t u v) = (((sl g).set i (some (.a, enc t))).set j (some (.a, enc u))).set l (some (.a, enc v)))
    (hN : X.N.Nodup) (ha : PV X sl .a a fa) (hb : PV X sl .a b fb) (hc' : PV X sl .a c fc) (hij : i ≠ j := by decide) (hil : i ≠ l := by decide) (hjl : j ≠ l := by decide) (hi : X.N[i]? = some x := by rfl) (hj : X.N[j]? = some y := by rfl) (hl : X.N[l]? = some z := by rfl)
    (hx : X.env.scope.names.lookup x = some .local := by rfl) (hy : X.env.scope.names.lookup y = some .local := by rfl) (hz : X.env.scope.names.lookup z = some .local := by rfl) (hc : X.calm = true := by rfl)
    (h1 : starEach [a, b, c] X.env = (false, eval a X.env) :: starEach [b, c] X.env := by rfl) (h2 : starEach [b, c] X.env = (false, eval b X.env) :: starEach [c] X.env := by rfl) (h3 : starEach [c] X.env = (false, eval c X.env) :: starEach [] X.env := by rfl)
    (hw : swappedStores [.Tuple [.Name x px, .Name y py, .Name z pz] kt pt] (.Tuple [a, b, c] k2 pt2) X.env = pure (some [x, y, z]) := by rfl)
    (hs : swapsWithSole [.Tuple [.Name x px, .Name y py, .Name z pz] kt pt] (.Tuple [a, b, c] k2 pt2) pos.line X.env = pure false := by rfl) :
    SV (ρ := ρ) X sl sl' kr (.Assign [.Tuple [.Name x px, .Name y py, .Name z pz] kt pt] (.Tuple [a, b, c] k2 pt2) pos) (fun g => (fa g).bind fun t => (fb g).bind fun u => (fc g).bind fun v => some (.nx (set g t u v))) :=
  PS.imp (ps_par3 hc hN hi hj hl hij hil hjl hx hy hz (pa_cons ha (pa_cons hb (pa_cons hc' pa_nil h3) h2) h1) hw hs) fun D σ H ⟨γ, S0, S, o, E, hf, p⟩ => by
    obtain ⟨t, u, e1, e2, e3⟩ := bind2 hf
    obtain ⟨v, e4, e5⟩ := bind1 e3
    cases e5
    refine ⟨γ, S0, S, t, E, e1, fun v1 H1 s1 r1 => ⟨γ, S0, S, u, E.same s1, e2, fun v2 H2 s2 r2 => ⟨γ, S0, S, v, (E.same s1).same s2, e4, fun v3 H3 s3 r3 => ⟨v1, v2, v3, rfl, ?_⟩⟩⟩⟩
    have s23 := s2.trans s3
    refine p _ _ S ?_ (.same (s1.trans s23))
    rw [h]
    exact ((((E.same s1).same s23).seta (Rp.mv (.same s23) _ _ r1)).seta (Rp.mv (.same s3) _ _ r2)).seta r3
/-! ### truth -/
theorem pb_truI {f : Γ → Option Int} (h : PV X sl .b e f) (he : ∀ whole, isTrue e X.env whole = (do let v ← whole; standAt e.pos; holding [v] (truthy v)) := by intro _; rfl) : PB X sl e (fun s => (f s).bind fun x => some (x != 0)) :=
  PT.imp (pt_truth h he) fun σ H Q ⟨γ, S0, S, t, E, hf, q⟩ => by
    obtain ⟨x, e1, e2⟩ := bind1 hf
    cases e2
    exact ⟨γ, S0, S, x, E, e1, fun v H' s r => ⟨_, by rw [rb_i r]; exact rfl, q H' s⟩⟩
theorem pb_truL [Enc τ] {f : Γ → Option (List τ)} (h : PV X sl .b e f) (he : ∀ whole, isTrue e X.env whole = (do let v ← whole; standAt e.pos; holding [v] (truthy v)) := by intro _; rfl) : PB X sl e (fun s => (f s).bind fun x => some (!x.isEmpty)) :=
  PT.imp (pt_truth h he) fun σ H Q ⟨γ, S0, S, t, E, hf, q⟩ => by
    obtain ⟨x, e1, e2⟩ := bind1 hf
    cases e2
    refine ⟨γ, S0, S, x, E, e1, fun v H' s r => ?_⟩
    obtain ⟨p, xs, rfl, h1, h2⟩ := rb_l r
    refine ⟨_, .inl ⟨xs, h1, ?_⟩, q H' s⟩
    have hl := map_len h2
    cases x <;> cases xs <;> simp at hl ⊢
/-! ### texts -/
def tJoin (x : Tx) (ys : List Tx) : Option Tx := if (ys.map fun t => t.cs.length).sum + ys.length * x.cs.length ≤ 16777216 then some ⟨x.cs.intercalate (ys.map fun t => t.cs)⟩ else none

/-! ### comprehensions of two clauses -/
def noO (l : Sl) : Bool := l.all fun x => match x with
  | some (.o, _) => false
  | _ => true
theorem noO_spec {l : Sl} (h : noO l = true) (i : Nat) (d : PyData) : l[i]? ≠ some (some (.o, d)) := fun e => by
  have := List.all_eq_true.mp h _ (List.mem_of_getElem? e)
  cases this
section
variable {Γb Γc ι κ : Type} {slb : Γb → Sl} {slc : Γc → Sl} [Enc ι] [Enc κ] [Enc τ] {elt tg iter tg1 iter1 : Expr} {ifs ifs1 : List Expr} {scope : Scope} {own : List (Str × Nat)} {vs1 : List Nat} {fi : Γ → Option (List ι)} {set : Γ → ι → Γb} {js js1 : List Nat} {ft : Γb → Option Bool} {fi1 : Γb → Option (List κ)} {set1 : Γb → κ → Γc} {ft1 : Γc → Option Bool} {fe : Γc → Option τ}
theorem pv_lc2 (hN : X.N.Nodup)
    (hi : IV X sl .b tg iter fi) (ok : BlkOk X.N X.env.scope scope own) (hj : ∀ i ∈ js, i ∈ own.map (·.2)) (hj1 : ∀ i ∈ js1, i ∈ vs1) (hv : ∀ i ∈ vs1, i ∈ own.map (·.2)) (hno : ∀ g : Γb, noO (slb g) = true)
    (hg : ∀ (s : Shared) (H : Hp) (C : Addr) (cl : List (Str × Addr)) (fp : List Addr), GV (X.blk s H scope (compEnvC scope cl C X.env) fp) (fun g => wipeB (sl g) (own.map (·.2))) slb tg set js)
    (ht : ∀ (s : Shared) (H : Hp) (C : Addr) (cl : List (Str × Addr)) (fp : List Addr), PBs (X.blk s H scope (compEnvC scope cl C X.env) fp) slb ifs ft)
    (hi1 : ∀ (s : Shared) (H : Hp) (C : Addr) (cl : List (Str × Addr)) (fp : List Addr), IV (X.blk s H scope (compEnvC scope cl C X.env) fp) slb .a tg1 iter1 fi1)
    (hg1 : ∀ (s : Shared) (H : Hp) (C : Addr) (cl : List (Str × Addr)) (fp : List Addr), GV (X.blk s H scope (compEnvC scope cl C X.env) fp) (fun g => wipeB (slb g) vs1) slc tg1 set1 js1)
    (ht1 : ∀ (s : Shared) (H : Hp) (C : Addr) (cl : List (Str × Addr)) (fp : List Addr), PBs (X.blk s H scope (compEnvC scope cl C X.env) fp) slc ifs1 ft1)
    (he : ∀ (s : Shared) (H : Hp) (C : Addr) (cl : List (Str × Addr)) (fp : List Addr), PV (X.blk s H scope (compEnvC scope cl C X.env) fp) slc .a elt fe) (hc : X.calm = true := by rfl) (hs : ∀ x, foldedSetIterable iter X.env x = pure x := by intro _; rfl) (hs1 : ∀ env x, foldedSetIterable iter1 env x = pure x := by intro _ _; rfl) :
    PV X sl .f (.ListComp elt [⟨tg, iter, ifs, 0⟩, ⟨tg1, iter1, ifs1, 0⟩] scope pos) (fun g => ((fi g).bind fun xs => compO2 ft fi1 ft1 fe (set g) set1 xs).bind fun r => lNew r) :=
  PE.imp (pe_lc2 (g := tG X.K (fun g => wipeB (sl g) (own.map fun q : Str × Nat => q.2)) slb set js) (tt := tB X.K slb ft) (wi1 := tI X.K slb .a fi1) (g1 := tG X.K (fun g => wipeB (slb g) vs1) slc set1 js1) (tt1 := tB X.K slc ft1) (te := tD X.K slc .a fe) hc hN hi ok hv hg ht hi1 hg1 ht1 he hs hs1) fun σ H Q h => lc2_read hj hj1 (fun g => noO_spec (hno g)) h
variable [Enc ρ] {i : Nat} {y : Str} {py spos : Pos}
theorem sv_ownLc2 (st : Γ → List τ → Γ') (h : ∀ g t, sl' (st g t) = (sl g).set i (some (.o, enc t))) (hN : X.N.Nodup)
    (hi : IV X sl .b tg iter fi) (ok : BlkOk X.N X.env.scope scope own) (hj : ∀ i ∈ js, i ∈ own.map (·.2)) (hj1 : ∀ i ∈ js1, i ∈ vs1) (hv : ∀ i ∈ vs1, i ∈ own.map (·.2)) (hno : ∀ g : Γb, noO (slb g) = true)
    (hg : ∀ (s : Shared) (H : Hp) (C : Addr) (cl : List (Str × Addr)) (fp : List Addr), GV (X.blk s H scope (compEnvC scope cl C X.env) fp) (fun g => wipeB (sl g) (own.map (·.2))) slb tg set js)
    (ht : ∀ (s : Shared) (H : Hp) (C : Addr) (cl : List (Str × Addr)) (fp : List Addr), PBs (X.blk s H scope (compEnvC scope cl C X.env) fp) slb ifs ft)
    (hi1 : ∀ (s : Shared) (H : Hp) (C : Addr) (cl : List (Str × Addr)) (fp : List Addr), IV (X.blk s H scope (compEnvC scope cl C X.env) fp) slb .a tg1 iter1 fi1)
    (hg1 : ∀ (s : Shared) (H : Hp) (C : Addr) (cl : List (Str × Addr)) (fp : List Addr), GV (X.blk s H scope (compEnvC scope cl C X.env) fp) (fun g => wipeB (slb g) vs1) slc tg1 set1 js1)
    (ht1 : ∀ (s : Shared) (H : Hp) (C : Addr) (cl : List (Str × Addr)) (fp : List Addr), PBs (X.blk s H scope (compEnvC scope cl C X.env) fp) slc ifs1 ft1)
    (he : ∀ (s : Shared) (H : Hp) (C : Addr) (cl : List (Str × Addr)) (fp : List Addr), PV (X.blk s H scope (compEnvC scope cl C X.env) fp) slc .a elt fe)
    (hy : X.N[i]? = some y := by rfl) (hyl : X.env.scope.names.lookup y = some .local := by rfl)
    (hsw : swapsWith (.ListComp elt [⟨tg, iter, ifs, 0⟩, ⟨tg1, iter1, ifs1, 0⟩] scope pos) (some (.Name y py)) spos.line X.env = pure true := by exact sw_true rfl rfl rfl (by decide +kernel)) (hc : X.calm = true := by rfl) (hs : ∀ x, foldedSetIterable iter X.env x = pure x := by intro _; rfl) (hs1 : ∀ env x, foldedSetIterable iter1 env x = pure x := by intro _ _; rfl) :
    SV (ρ := ρ) X sl sl' kr (.Assign [.Name y py] (.ListComp elt [⟨tg, iter, ifs, 0⟩, ⟨tg1, iter1, ifs1, 0⟩] scope pos) spos) (fun g => (((fi g).bind fun xs => compO2 ft fi1 ft1 fe (set g) set1 xs).bind fun r => lNew r).bind fun t => some (.nx (st g t))) :=
  PS.imp (ps_setLc2 (g := tG X.K (fun g => wipeB (sl g) (own.map fun q : Str × Nat => q.2)) slb set js) (tt := tB X.K slb ft) (wi1 := tI X.K slb .a fi1) (g1 := tG X.K (fun g => wipeB (slb g) vs1) slc set1 js1) (tt1 := tB X.K slc ft1) (te := tD X.K slc .a fe) hc hN hy hyl hsw hi ok hv hg ht hi1 hg1 ht1 he hs hs1) fun D σ H ⟨γ, S0, S, o, E, hf, p⟩ => by
    obtain ⟨t, e1, e2⟩ := bind1 hf
    cases e2
    refine lc2_read hj hj1 (fun g => noO_spec (hno g)) ⟨γ, S0, S, t, E, e1, fun v H' s r => ?_⟩
    obtain ⟨S', m, E'⟩ := E.seto (i := i) s r
    refine p _ _ S' ?_ m
    rw [h]
    exact E'
theorem sv_setLc2 (st : Γ → List τ → Γ') (h : ∀ g t, sl' (st g t) = (sl g).set i (some (.a, enc t))) (hN : X.N.Nodup)
    (hi : IV X sl .b tg iter fi) (ok : BlkOk X.N X.env.scope scope own) (hj : ∀ i ∈ js, i ∈ own.map (·.2)) (hj1 : ∀ i ∈ js1, i ∈ vs1) (hv : ∀ i ∈ vs1, i ∈ own.map (·.2)) (hno : ∀ g : Γb, noO (slb g) = true)
    (hg : ∀ (s : Shared) (H : Hp) (C : Addr) (cl : List (Str × Addr)) (fp : List Addr), GV (X.blk s H scope (compEnvC scope cl C X.env) fp) (fun g => wipeB (sl g) (own.map (·.2))) slb tg set js)
    (ht : ∀ (s : Shared) (H : Hp) (C : Addr) (cl : List (Str × Addr)) (fp : List Addr), PBs (X.blk s H scope (compEnvC scope cl C X.env) fp) slb ifs ft)
    (hi1 : ∀ (s : Shared) (H : Hp) (C : Addr) (cl : List (Str × Addr)) (fp : List Addr), IV (X.blk s H scope (compEnvC scope cl C X.env) fp) slb .a tg1 iter1 fi1)
    (hg1 : ∀ (s : Shared) (H : Hp) (C : Addr) (cl : List (Str × Addr)) (fp : List Addr), GV (X.blk s H scope (compEnvC scope cl C X.env) fp) (fun g => wipeB (slb g) vs1) slc tg1 set1 js1)
    (ht1 : ∀ (s : Shared) (H : Hp) (C : Addr) (cl : List (Str × Addr)) (fp : List Addr), PBs (X.blk s H scope (compEnvC scope cl C X.env) fp) slc ifs1 ft1)
    (he : ∀ (s : Shared) (H : Hp) (C : Addr) (cl : List (Str × Addr)) (fp : List Addr), PV (X.blk s H scope (compEnvC scope cl C X.env) fp) slc .a elt fe)
    (hy : X.N[i]? = some y := by rfl) (hyl : X.env.scope.names.lookup y = some .local := by rfl)
    (hsw : swapsWith (.ListComp elt [⟨tg, iter, ifs, 0⟩, ⟨tg1, iter1, ifs1, 0⟩] scope pos) (some (.Name y py)) spos.line X.env = pure true := by exact sw_true rfl rfl rfl (by decide +kernel)) (hc : X.calm = true := by rfl) (hs : ∀ x, foldedSetIterable iter X.env x = pure x := by intro _; rfl) (hs1 : ∀ env x, foldedSetIterable iter1 env x = pure x := by intro _ _; rfl) :
    SV (ρ := ρ) X sl sl' kr (.Assign [.Name y py] (.ListComp elt [⟨tg, iter, ifs, 0⟩, ⟨tg1, iter1, ifs1, 0⟩] scope pos) spos) (fun g => (((fi g).bind fun xs => compO2 ft fi1 ft1 fe (set g) set1 xs).bind fun r => lNew r).bind fun t => some (.nx (st g t))) :=
  PS.imp (ps_setLc2 (g := tG X.K (fun g => wipeB (sl g) (own.map fun q : Str × Nat => q.2)) slb set js) (tt := tB X.K slb ft) (wi1 := tI X.K slb .a fi1) (g1 := tG X.K (fun g => wipeB (slb g) vs1) slc set1 js1) (tt1 := tB X.K slc ft1) (te := tD X.K slc .a fe) hc hN hy hyl hsw hi ok hv hg ht hi1 hg1 ht1 he hs hs1) fun D σ H ⟨γ, S0, S, o, E, hf, p⟩ => by
    obtain ⟨t, e1, e2⟩ := bind1 hf
    cases e2
    refine lc2_read hj hj1 (fun g => noO_spec (hno g)) ⟨γ, S0, S, t, E, e1, fun v H' s r => ?_⟩
    refine p _ _ S ?_ (.same s)
    rw [h]
    exact (E.same s).seta (Fr.rp r E.dT)
end

/-- the law's promise at a script -/
theorem sp_law {K : PySem.W.Frag} {H : Hp} {a : Addr} {ns : List Int} {N : List Str} {sl0 : List Int × Unit → Sl} {F : List Int × Unit → Option Bool} {E : XK} {j : Nat} (md : Mo) (hmd : md ≠ .o) (hS : SqL K H a (ns.map V.int)) (hF : F (ns, ()) = some true)
    (h0 : sl0 (ns, ()) = slOf [md] [enc ns] ++ List.replicate j none) (hN : N.length = 1 + j) : spF K N 1 sl0 .a F [.ref a] H (fun v _ => v = .bl true) E := by
  have r : Rp K H no (enc ns) (.ref a) := ⟨a, ns.map V.int, rfl, hS.imp (fun h => ⟨h, fun z => z⟩) id, rpa_ints ns⟩
  have ra : ArgsR K H no [md] [enc ns] [.ref a] := ⟨by
    cases md with
    | a => exact r
    | b => exact .inl r
    | o => exact absurd rfl hmd, trivial⟩
  obtain ⟨En, _⟩ := env_start (N := N) (j := j) ra (fun a z => z.elim) hN
  refine ⟨rfl, (ns, ()), no, true, by rw [h0]; exact En, hF, fun v H' rv => rv.2⟩
end PL

/-! PL10: repr, and the law's promise at the caller alone (its guards are known there). -/
namespace PL
open PySem PySem.Spec L2 PyProof.Rows
open Enc (enc)

section
variable {X : Cx} {pins : List (Addr × Obj)} {σ : L2.St} {H : Hp} {s : Shared} {T : Ad}
mutual
theorem reads_rp (I : Inv X pins σ H s) : ∀ (d : PyData) (v : V) (u : Value), Rp X.K H T d v → RelV v u → d.hasDict = false → ∃ as, Reads s.heap u d as
  | .none, v, u, h, r, _ => by
    have h : v = .non := h
    subst h
    have r : u = Value.none := r
    subst r
    exact ⟨_, .none⟩
  | .bool b, v, u, h, r, _ => by
    have h : v = .bl b := h
    subst h
    have r : u = Value.bool b := r
    subst r
    exact ⟨_, .bool b⟩
  | .int i, v, u, h, r, _ => by
    have h : v = .int i := h
    subst h
    obtain ⟨t, rfl⟩ := r
    exact ⟨_, .int i t⟩
  | .str x, v, u, h, r, _ => by
    have h : v = .str x := h
    subst h
    obtain ⟨t, rfl⟩ := r
    exact ⟨_, .str x t⟩
  | .list ds, v, u, h, r, nd => by
    obtain ⟨a, xs, e, h1, h2⟩ := h
    subst e
    have r : u = Value.ref a := r
    subst r
    obtain ⟨its, rv, ⟨o, n, q1, q2, _, q3⟩, _⟩ := I.list h1.sq
    obtain ⟨as, ra⟩ := reads_rpA I ds xs its h2 rv (by simpa [PyData.hasDict] using nd)
    exact ⟨_, .list q1 q2 q3 (by simpa using ra)⟩
  | .tuple ds, v, u, h, r, nd => by
    obtain ⟨a, xs, e, h1, h2⟩ := h
    subst e
    have r : u = Value.ref a := r
    subst r
    obtain ⟨its, rv, ⟨o, q1, q2, n, q3⟩, _⟩ := I.tuple h1.sq
    obtain ⟨as, ra⟩ := reads_rpA I ds xs its h2 rv (by simpa [PyData.hasDict] using nd)
    exact ⟨_, .tuple q1 q2 q3 (by simpa using ra)⟩
  | .dict kvs, v, u, h, r, nd => by simp [PyData.hasDict] at nd
theorem reads_rpA (I : Inv X pins σ H s) : ∀ (ds : List PyData) (xs : List V) (us : List Value), RpA X.K H T ds xs → Vals xs us → PyData.hasDictAll ds = false → ∃ as, ReadsAll s.heap us ds as
  | [], xs, us, h, r, _ => by
    have h : xs = [] := h
    subst h
    cases r
    exact ⟨_, .nil⟩
  | d :: ds, xs, us, h, r, nd => by
    obtain ⟨v, vs, e, h1, h2⟩ := h
    subst e
    rw [PyData.hasDictAll, Bool.or_eq_false_iff] at nd
    cases r with
    | cons r1 r2 =>
      obtain ⟨as, q1⟩ := reads_rp I d v _ h1 r1 nd.1
      obtain ⟨bs, q2⟩ := reads_rpA I ds vs _ h2 r2 nd.2
      exact ⟨_, .cons q1 q2⟩
end
theorem reads_rb (I : Inv X pins σ H s) {d : PyData} {v : V} {u : Value} (h : Rb X.K H T d v) (r : RelV v u) (nd : d.hasDict = false) : ∃ as, Reads s.heap u d as := by
  rcases h with h | ⟨ds, a, xs, rfl, rfl, h1, h2⟩ | ⟨kvs, a, es, rfl, _⟩
  · exact reads_rp I d v u h r nd
  · have r : u = Value.ref a := r
    subst r
    obtain ⟨its, rv, ⟨o, n, q1, q2, _, q3⟩, _⟩ := I.list (.inl h1)
    obtain ⟨as, ra⟩ := reads_rpA I ds xs its h2 rv (by simpa [PyData.hasDict] using nd)
    exact ⟨_, .list q1 q2 q3 (by simpa using ra)⟩
  · simp [PyData.hasDict] at nd
end
section
variable {X : Cx}
/-- repr of anything plain -/
theorem call_repr_any (hgd : X.A.guards = some []) (hu : X.A.units + 64 < cLine) :
    CallR X (.builtin "repr") (fun xs H Q => ∃ d v T, xs = [v] ∧ Rb X.K H T d v ∧ d.showable = true ∧ d.hasDict = false ∧ d.shown.length ≤ sizeLine ∧ d.depth ≤ 32 ∧ Q (.str d.shown) H) := by
  intro pins s σ H xs us Q I r h
  obtain ⟨d, v, T, rfl, hr, hs, nd, hz, hd, q⟩ := h
  obtain ⟨u, rfl, rv⟩ := vals1 r
  obtain ⟨as, R⟩ := reads_rb I hr rv nd
  cases R with
  | none => exact PySem.P.repr_of_none ⟨.str _, H, I.tok _, ⟨_, rfl⟩, q⟩
  | bool b => exact PySem.P.repr_of_bool ⟨.str _, H, I.tok _, ⟨_, rfl⟩, q⟩
  | int i t => exact PySem.P.repr_of_int (by simpa [PyData.showable] using hs) ⟨.str _, H, I.tok _, ⟨_, rfl⟩, q⟩
  | str x t => exact PySem.P.repr_of_str ⟨.str _, H, I.tok _, ⟨_, rfl⟩, q⟩ hz
  | list h1 h2 h3 h4 => exact repr_of_reads' (Reads.list h1 h2 h3 h4) hs (fun z => by rw [nd] at z; cases z) hgd (by omega) (fun _ _ e => e) (fun h' u tk k => ⟨.str _, H, I.kept k, ⟨_, rfl⟩, q⟩) hz
  | tuple h1 h2 h3 h4 => exact repr_of_reads' (Reads.tuple h1 h2 h3 h4) hs (fun z => by rw [nd] at z; cases z) hgd (by omega) (fun _ _ e => e) (fun h' u tk k => ⟨.str _, H, I.kept k, ⟨_, rfl⟩, q⟩) hz
  | dict _ _ _ _ _ => simp [PyData.hasDict] at nd
end
def rShow [Enc τ] (x : τ) : Option Tx := if (enc x).showable = true ∧ (enc x).hasDict = false ∧ (enc x).shown.length ≤ sizeLine ∧ (enc x).depth ≤ 32 then some ⟨(enc x).shown.cps.toList⟩ else none
section
variable {Γ τ : Type} {X : Cx} {sl : Γ → Sl} {a : Expr} {p pos : Pos}
theorem pv_repr [Enc τ] {fa : Γ → Option τ} (hgd : X.A.guards = some []) (hu : X.A.units + 64 < cLine) (hg : Gl X "repr") (hm : X.mg "repr" = none) (ha : PV X sl .b a fa) (he : starEach [a] X.env = (false, eval a X.env) :: starEach [] X.env := by rfl) :
    PV X sl .a (.Call (.Name "repr" p) [a] [] pos) (fun s => (fa s).bind fun x => rShow x) :=
  pv_c1 (fun h => pe_callB (call_repr_any hgd hu) hg hm (by rfl) (pa_cons h pa_nil he) (he := he)) (fun T H x u t Q hT r e q => by
    obtain ⟨⟨h1, h2, h3, h4⟩, rfl⟩ := if_some e
    refine ⟨_, x, T, rfl, r, h1, h2, h3, h4, q _ H (Same.refl H) ?_⟩
    show V.str _ = V.str _
    simp) ha
end

/-! ### the promise at the caller alone -/
def FnAt (P : Program) (w : World) (K : PySem.W.Frag) (mg : Str → Option Value) (base : Heap) (f : Addr) (fd : FuncData) (ps : List Str) (sp : Sp) : Prop :=
  ∀ (s : Shared) (H : Hp) (args : Args) (us : List Value) (vs : List V) (Q : VK) (E : XK), Env0 P w K mg base callerA [] s H → BindsTo s fd args (ps.zip us) → Vals vs us → sp vs H Q E →
    codeAny (model P w) callerA (.call (.ref f) args) (CR CX0 [] P w H s Q E) s
section
variable {P : Program} {w : World} {K : PySem.W.Frag} {mg : Str → Option Value} {base : Heap}
theorem fnAt_of {x qual : Str} {st : Stmt} {f : Addr} {fd : FuncData} {N ps : List Str} {k : Nat} {sp : Sp} (F : Fun K x qual st f fd) (S : FnScope N ps (defScope st)) (hr : Room (k + 1) callerA) (len : ∀ vs H Q E, sp vs H Q E → vs.length = ps.length)
    (body : ∀ (cdv : Value) (s : Shared) (H : Hp) (vs : List V) (Q : VK) (E : XK), Room k (callerA.deeper (envOfC qual (defScope st) s.heap.objs.size f cdv)) → sp vs H Q E →
      ∃ t, PSs (cxOf CX0 P w K mg base N qual (defScope st) f cdv callerA [] s H E).nox (defBody st) t ∧ t { nx := fun _ H' => Q .non H', rt := Q } (L2.start N vs) H) : FnAt P w K mg base f fd ps sp := by
  obtain ⟨oc, od, kV, doc, pm, an, cdv, ct, osl, rfl, lk, hcd⟩ := F.ex
  intro s H args us vs Q E e0 hb r hsp
  have n1 := len _ _ _ _ hsp
  have kin : K.In s.heap := e0.mod.kin.keeps fun b o z => (e0.bs b o z).1
  have nolim : s.heap.NoLimit := e0.mod.nolimit.keeps fun b o z => (e0.bs b o z).1
  refine codeAny_call_function hr.depth (kin _ _ lk) rfl S.co S.gen rfl
    (PySem.W.codeRec_of kin hcd) (hb _ _ _ _ ?_)
  refine wpAny_newFunctionEnv_cells S.kind ?_ fun env he s1 x => ?_
  · rintro ⟨n, v⟩ hy
    rcases S.par n (List.of_mem_zip hy).1 with z | z
    · exact .inl z
    · exact .inr ⟨z, PySem.W.cellsFrom_some _ _ _ (.inl z)⟩
  · subst he
    refine ⟨nolim.keeps x.toInCall.keep, codeAny_func ?_⟩
    obtain ⟨t, ht0, hq⟩ := body cdv s H vs Q E (hr.deeper _) hsp
    have ht := ht0.nox
    refine wpAny_mono (ht.run [] s1 (L2.start N vs) H _ (inv_start S hr.hd e0 n1 r x) hq) (fun fl s' hs => ?_) fun e s' hs => hs
    rcases fl with _ | _ | _ | u
    · obtain ⟨σ', H', J, q⟩ := hs
      exact ⟨.non, H', J.os, J.bare, J.base, J.hok, rfl, q⟩
    · obtain ⟨_, _, _, q⟩ := hs
      exact False.elim q
    · obtain ⟨_, _, _, q⟩ := hs
      exact False.elim q
    · obtain ⟨v, σ', H', J, rv, q⟩ := hs
      exact ⟨v, H', J.os, J.bare, J.base, J.hok, rv, q⟩
end
end PL

/-! PL11: the end of a law from the promise at the caller alone; the law's def. -/
namespace PL
open PySem PySem.Spec L2 PyProof.Rows
open Enc (enc)
variable {Γ Γ' ρ τ A : Type}

theorem at_call {P : Program} {w : World} {K : PySem.W.Frag} {mg mb : Str → Option Value} {fa a : Addr} {fd : FuncData} {x : Str} {sp : Sp} {s : Shared} {vs : List Value} {ns : List Int}
    (kin : K.In s.heap) (g1 : s.heap.Ns mainGlobals mg) (g2 : s.heap.Ns builtinsNs mb) (g3 : ∀ x : Str, x ≠ "__name__" → mb x = bootBuiltins x) (g4 : s.heap.NoLimit) (g5 : s.gens = #[])
    (ha : s.heap.get? a = some { cls := .type "list", data := .seq vs.toArray }) (hi : PyProof.Rows.IntsAre vs ns) (hl : ns.length ≤ sizeLine)
    (F : ∀ b : Heap, K.In b → b.Ns mainGlobals mg → FnAt P w K mg b fa fd [x] sp) (hb : ∀ (s : Shared) (u : Value), BindsTo s fd ⟨[u], []⟩ [(x, u)])
    (hsp : ∀ H : Hp, SqL K H a (ns.map V.int) → sp [.ref a] H (fun v _ => v = .bl true) fun _ _ _ => False) :
    codeAny (model P w) callerA (.call (.ref fa) ⟨[.ref a], []⟩) (fun r s' => r = .ok (.ret (.bool true)) ∧ OldK s.heap s'.heap ∧ s'.os = s.os ∧ AllBare s'.gens) s := by
  have rv := vals_ints hi
  -- the script is tracked, frozen, unless the module itself holds it
  obtain ⟨H, h1, h2, h3, h4⟩ : ∃ H : Hp, SqL K H a (ns.map V.int) ∧ HOk P w H s.heap ∧ (∀ b, H b ≠ none → b = a ∧ K.lookup a = none) ∧ ∀ b, H b = none ∨ ∃ o u, H b = some (.frz o u) := by
    cases e : K.lookup a with
    | some o =>
      refine ⟨fun _ => none, .inr ?_, (fun b u z => by have z : (none : Option HO) = some u := z; cases z), (fun b z => absurd rfl z), (fun _ => .inl rfl)⟩
      have q := kin a o e
      rw [ha] at q
      cases q
      refine ⟨_, vs.toArray, _, e, rfl, rfl, rfl, ?_, ?_⟩
      · rw [List.size_toArray, hi.length]; exact hl
      · simpa using rv
    | none =>
      refine ⟨fun b => if b = a then some (.frz { cls := .type "list", data := .seq vs.toArray } (.lst (ns.map V.int))) else none, .inl (.inr ⟨{ cls := .type "list", data := .seq vs.toArray }, if_pos rfl⟩), fun b u z => ?_, fun b z => ?_, fun b => ?_⟩
      · by_cases hba : b = a
        · subst hba
          have z2 := (if_pos rfl).symm.trans z
          cases z2
          refine ⟨ha, ?_, vs, _, rv, ha⟩
          rw [List.length_map]; exact hl
        · have z2 := (if_neg hba).symm.trans z
          cases z2
      · by_cases hba : b = a
        · exact ⟨hba, rfl⟩
        · exact absurd (if_neg hba) z
      · by_cases hba : b = a
        · exact .inr ⟨_, _, if_pos hba⟩
        · exact .inl (if_neg hba)
  have low : ∀ {b : Addr} {o : Obj}, s.heap.get? b = some o → H b = none → (hidT s.heap H).get? b = some o := fun z n => hidT_get z n
  have nsl : ∀ {b : Addr} {m : Str → Option Value}, s.heap.Ns b m → (hidT s.heap H).Ns b m := by
    rintro b m ⟨o, es, ep, z, d, r⟩
    refine ⟨o, es, ep, low z ?_, d, r⟩
    cases q : H b with
    | none => rfl
    | some u =>
      obtain ⟨rfl, _⟩ := h3 b (by rw [q]; simp)
      rw [ha] at z
      cases z
      cases d
  have kb : K.In (hidT s.heap H) := fun b o z => low (kin b o z) (by
    cases q : H b with
    | none => rfl
    | some u =>
      obtain ⟨rfl, n⟩ := h3 b (by rw [q]; simp)
      rw [n] at z
      cases z)
  have md : Mod K mg (hidT s.heap H) := by
    obtain ⟨mc, y1, y2⟩ := g4
    exact ⟨kb, nsl g1, ⟨mb, nsl g2, g3⟩, ⟨mc, nsl y1, y2⟩⟩
  have e0 : Env0 P w K mg (hidT s.heap H) callerA [] s H :=
    ⟨rfl, md, fun b o z => of_hidT z, Nat.le_of_eq (hidT_size _ _), trivial, (fun b z => by cases z), h2, .of_eq g5⟩
  have go := F _ kb (nsl g1) s H ⟨[.ref a], []⟩ [.ref a] [.ref a] _ _ e0 (hb s (.ref a)) (.cons rfl .nil) (hsp H h1)
  refine codeAny_mono go fun r s' h => ?_
  rcases r with e | fl
  · exact False.elim h
  · rcases fl with _ | _ | _ | u
    · exact False.elim h
    · exact False.elim h
    · exact False.elim h
    · obtain ⟨v, H', os, bare, un, ok', r', q⟩ := h
      have q2 : v = .bl true := q
      subst q2
      have r2 : u = Value.bool true := r'
      subst r2
      refine ⟨rfl, OldK.of_keep fun b o z => ?_, os, bare⟩
      rcases h4 b with q | ⟨ob, u2, q⟩
      · exact un.keep b o z q (by intro y; cases y) (by intro y; cases y)
      · have q2 := un.frzs b ob _ q
        obtain ⟨i1, _⟩ := h2 b _ q
        obtain ⟨i2, _⟩ := ok' b _ q2
        rw [z] at i1
        cases i1
        exact i2

theorem walk_at {l : PySem.W.OpenLaw} {n : Nat} {q : Program} {loose : List Str} {XP : (Str → Option Value) → Heap → Prop} {YP : World → Heap → Prop} {d : DefRec} {K : Params → PySem.W.Frag} {sp : World → Sp} {x : Str}
    (h1 : l.most = some n) (h2 : n ≤ sizeLine) (h3 : d.params.defaults = []) (h4 : ∀ (w : World) (h : Heap), YP w h → (K w.params).In h)
    (F : ∀ (w : World) (mg : Str → Option Value) (fa : Addr) (h : Heap), (K w.params).In h → h.Ns mainGlobals mg → mg d.name = some (.ref fa) →
      ∃ fd : FuncData, (∀ (s : Shared) (u : Value), BindsTo s fd ⟨[u], []⟩ [(x, u)]) ∧ ∀ b : Heap, (K w.params).In b → b.Ns mainGlobals mg → FnAt l.prog w (K w.params) mg b fa fd [x] (sp w))
    (hsp : ∀ (w : World) (H : Hp) (a : Addr) (ns : List Int), ns.length ≤ n → SqL (K w.params) H a (ns.map V.int) → sp w [.ref a] H (fun v _ => v = .bl true) fun _ _ _ => False) :
    PySem.W.WalkO q loose XP YP l.row.toRowW d [] (fun f vs => PySem.call f vs) := by
  refine Att.attach_call h1 h3 ?_
  intro w s₀ s₁ mg mb fa o pm cd doc a vs ns G Y ho hd hcd hmg hobj hints hlen hg
  have kin := h4 w _ Y
  obtain ⟨fd, hb, hF⟩ := F w mg fa _ kin G.T.g hmg
  exact at_call kin G.T.g G.T.b G.T.builtins G.T.nolimit hg hobj hints (Nat.le_trans hlen h2) hF hb fun H hS => hsp w H a ns hlen hS
section
variable {P : Program} {w : World} {K : PySem.W.Frag} {mg : Str → Option Value} {base : Heap}
theorem fnAt_v [Enc ρ] {x qual : Str} {st : Stmt} {f : Addr} {fd : FuncData} {N ps : List Str} {k n : Nat} {sl0 : A → Sl} {slE : Γ → Sl} {fb : A → Option (Out Γ ρ)} {F : A → Option ρ} {kr : Kd} (dn : Option ρ) (Fn : Fun K x qual st f fd) (S : FnScope N ps (defScope st)) (hr : Room (k + 1) callerA) (hn : ps.length = n := by rfl)
    (hdn : ∀ r, dn = some r → enc r = .none) (hk : kr = .a ∨ kr = .f ∧ dn = none)
    (hF : ∀ g, F g = outF dn (fb g))
    (hb : ∀ (cdv : Value) (s : Shared) (H : Hp) (E : XK), Room k (callerA.deeper (envOfC qual (defScope st) s.heap.objs.size f cdv)) →
      BV (cxOf CX0 P w K mg base N qual (defScope st) f cdv callerA [] s H E).nox sl0 slE kr (defBody st) fb) :
    FnAt P w K mg base f fd ps (spF K N n sl0 kr F) := by
  refine fnAt_of Fn S hr (fun vs H Q E h => h.1.trans hn.symm) fun cdv s H vs Q E hr h => ?_
  obtain ⟨hl, g, S0, r, En, hFr, q⟩ := h
  refine ⟨_, hb cdv s H E hr, ?_⟩
  rw [hF] at hFr
  obtain ⟨o, h1, h2⟩ := bind1 hFr
  refine ⟨g, S0, no, o, En, h1, ?_⟩
  cases o with
  | rt r' =>
    cases h2
    exact q
  | nx g' =>
    have h2 : dn = some r := h2
    rcases hk with rfl | ⟨_, e⟩
    · exact fun σ' H' S' _ m => q .non H' ⟨m.no, by rw [hdn r h2]; rfl⟩
    · rw [e] at h2; cases h2
end
example {P : Program} {w : World} {K : PySem.W.Frag} {mg : Str → Option Value} {base : Heap} {N : List Str} {qual : Str} {sc : Scope} {f : Addr} {cdv : Value} {s : Shared} {H : Hp} {E : XK} : (cxOf CX0 P w K mg base N qual sc f cdv callerA [] s H E).nox.A.guards = some [] := rfl
end PL

/-! PL12: dicts that a def owns. -/
namespace PL
open PySem PySem.Spec L2
open Enc (enc)
variable {Γ Γ' ρ τ κ : Type} {X : Cx} {sl : Γ → Sl} {sl' : Γ' → Sl} {e : Expr} {pos : Pos} {kr : Kd}
/-- keys -/
class KeyT (κ : Type) [Enc κ] [DecidableEq κ] where
  key : κ → Key
  kd : ∀ k : κ, keyD (enc k) = some (key k)
  inj : ∀ k l : κ, key k = key l → k = l
  rp : ∀ (K : PySem.W.Frag) (H : Hp) (T : Ad) (k : κ) (v : V), Rb K H T (enc k) v → v = kV (key k)
open KeyT (key)
instance : KeyT Int := ⟨.inl, fun _ => rfl, fun _ _ e => Sum.inl.inj e, fun _ _ _ _ _ h => rb_i h⟩
instance : KeyT Tx := ⟨fun x => .inr ⟨x.cs.toArray⟩, fun _ => rfl, fun k l e => by
  have := congrArg Str.cps (Sum.inr.inj e)
  have h : k.cs = l.cs := by simpa using this
  cases k; cases l; cases h; rfl, fun _ _ _ _ _ h => rb_t h⟩
structure Dct (κ τ : Type) where
  es : List (κ × τ)
def eE [Enc κ] [Enc τ] (q : κ × τ) : PyData × PyData := (enc q.1, enc q.2)
instance [Enc κ] [Enc τ] : Enc (Dct κ τ) := ⟨fun d => .dict (d.es.map eE)⟩
def kGet [DecidableEq κ] (d : Dct κ τ) (k : κ) : Option τ := (d.es.find? fun q => decide (q.1 = k)).map (·.2)
def kIn [DecidableEq κ] (k : κ) (d : Dct κ τ) : Option Bool := some (kGet d k).isSome
def kNin [DecidableEq κ] (k : κ) (d : Dct κ τ) : Option Bool := some (!(kGet d k).isSome)
def kPut [DecidableEq κ] (d : Dct κ τ) (k : κ) (t : τ) : Option (Dct κ τ) :=
  if d.es.length < sizeLine then some ⟨if (d.es.any fun q => decide (q.1 = k)) = true then d.es.map (fun q => if q.1 = k then (q.1, t) else q) else d.es ++ [(k, t)]⟩ else none
section
variable {K : PySem.W.Frag} {H : Hp} {T : Ad} {v : V}
theorem rb_d [Enc κ] [Enc τ] {d : Dct κ τ} (h : Rb K H T (enc d) v) : ∃ a es, v = .ref a ∧ Rd H a (.dK es) ∧ RpK K H T (d.es.map eE) es := by
  rcases h with ⟨a, es, e, h1, h2⟩ | ⟨_, _, _, e, _⟩ | ⟨kvs, a, es, e, rfl, h1, h2⟩
  · exact ⟨a, es, e, h1.1, h2⟩
  · cases e
  · cases e
    exact ⟨a, es, rfl, h1, h2⟩
variable [Enc κ] [Enc τ] [DecidableEq κ] [KeyT κ]
theorem rpk_get (k : κ) : ∀ {es : List (κ × τ)} {ks : List (Key × V)}, RpK K H T (es.map eE) ks →
    (∃ t v, kGet ⟨es⟩ k = some t ∧ valV ks (key k) = some v ∧ Rp K H T (enc t) v) ∨ (kGet ⟨es⟩ k = none ∧ valV ks (key k) = none)
  | [], ks, h => by
    have h : ks = [] := h
    subst h
    exact .inr ⟨rfl, rfl⟩
  | (k', t) :: es, ks, h => by
    obtain ⟨i, v, vs, rfl, hk, h1, h2⟩ := h
    have hk : i = key k' := by
      have := KeyT.kd k'
      exact Option.some.inj (hk.symm.trans this)
    subst hk
    by_cases c : k' = k
    · subst c
      exact .inl ⟨t, v, by simp [kGet, List.find?_cons], valV_pos rfl, h1⟩
    · have c2 : key k' ≠ key k := fun z => c (KeyT.inj _ _ z)
      rcases rpk_get k h2 with ⟨t2, v2, g1, g2, g3⟩ | ⟨g1, g2⟩
      · exact .inl ⟨t2, v2, by simpa [kGet, List.find?_cons, c] using g1, by simpa [valV, List.find?_cons, c2] using g2, g3⟩
      · exact .inr ⟨by simpa [kGet, List.find?_cons, c] using g1, by simpa [valV, List.find?_cons, c2] using g2⟩
theorem rpk_any (k : κ) : ∀ {es : List (κ × τ)} {ks : List (Key × V)}, RpK K H T (es.map eE) ks → (ks.any fun kv => decide (kv.1 = key k)) = es.any fun q => decide (q.1 = k)
  | [], ks, h => by
    have h : ks = [] := h
    subst h
    rfl
  | (k', t) :: es, ks, h => by
    obtain ⟨i, v, vs, rfl, hk, h1, h2⟩ := h
    have hk : i = key k' := Option.some.inj (hk.symm.trans (KeyT.kd k'))
    subst hk
    rw [List.any_cons, List.any_cons, rpk_any k h2]
    congr 1
    exact decide_eq_decide.mpr ⟨fun z => KeyT.inj _ _ z, fun z => by have z : k' = k := z; rw [z]⟩
theorem rpk_map (k : κ) {t : τ} {v : V} (hv : Rp K H T (enc t) v) : ∀ {es : List (κ × τ)} {ks : List (Key × V)}, RpK K H T (es.map eE) ks →
    RpK K H T ((es.map fun q => if q.1 = k then (q.1, t) else q).map eE) (ks.map fun kv => if kv.1 = key k then (kv.1, v) else kv)
  | [], ks, h => by
    have h : ks = [] := h
    subst h
    rfl
  | (k', t') :: es, ks, h => by
    obtain ⟨i, v', vs, rfl, hk, h1, h2⟩ := h
    have hk2 : i = key k' := Option.some.inj (hk.symm.trans (KeyT.kd k'))
    subst hk2
    by_cases c : k' = k
    · have c2 : key k' = key k := by rw [c]
      refine ⟨key k', v, _, ?_, ?_, ?_, rpk_map k hv h2⟩
      · simp [c2]
      · simp only [if_pos c]; exact KeyT.kd k'
      · simp only [if_pos c]; exact hv
    · have c2 : key k' ≠ key k := fun z => c (KeyT.inj _ _ z)
      refine ⟨key k', v', _, ?_, ?_, ?_, rpk_map k hv h2⟩
      · simp [c2]
      · simp only [if_neg c]; exact KeyT.kd k'
      · simp only [if_neg c]; exact h1
theorem rpk_app (k : κ) {t : τ} {v : V} (hv : Rp K H T (enc t) v) : ∀ {es : List (κ × τ)} {ks : List (Key × V)}, RpK K H T (es.map eE) ks → RpK K H T ((es ++ [(k, t)]).map eE) (ks ++ [(key k, v)])
  | [], ks, h => by
    have h : ks = [] := h
    subst h
    exact ⟨_, _, _, rfl, KeyT.kd k, hv, rfl⟩
  | (k', t') :: es, ks, h => by
    obtain ⟨i, v', vs, rfl, hk, h1, h2⟩ := h
    exact ⟨i, v', _, rfl, hk, h1, rpk_app k hv h2⟩
theorem rpk_put (k : κ) {t : τ} {v : V} (hv : Rp K H T (enc t) v) {es : List (κ × τ)} {ks : List (Key × V)} (h : RpK K H T (es.map eE) ks) :
    RpK K H T ((if (es.any fun q => decide (q.1 = k)) = true then es.map (fun q => if q.1 = k then (q.1, t) else q) else es ++ [(k, t)]).map eE) (putK ks (key k) v) := by
  unfold putK
  rw [rpk_any k h]
  by_cases c : (es.any fun q => decide (q.1 = k)) = true
  · rw [if_pos c, if_pos c]; exact rpk_map k hv h
  · rw [if_neg c, if_neg c]; exact rpk_app k hv h
theorem rpk_len : ∀ {es : List (κ × τ)} {ks : List (Key × V)}, RpK K H T (es.map eE) ks → ks.length = es.length
  | [], ks, h => by
    have h : ks = [] := h
    subst h
    rfl
  | _ :: es, ks, h => by
    obtain ⟨i, v', vs, rfl, hk, h1, h2⟩ := h
    simp [rpk_len h2]
end
variable [Enc κ] [Enc τ] [DecidableEq κ] [KeyT κ] {fd : Γ → Option (Dct κ τ)} {fk : Γ → Option κ} {o i : Expr}
theorem pv_dict : PV X sl .f (.Dict [] [] pos) (fun _ => some (⟨[]⟩ : Dct κ τ)) := PE.imp pe_dnewK fun σ H Q ⟨γ, S0, S, t, E, hf, q⟩ p hp => by
  cases hf
  exact q _ _ (same_new hp) ⟨p, rfl, hp, .inr ⟨[], [], rfl, upd_same, rfl⟩⟩
theorem pv_dget (hu : X.A.units + 64 < cLine) (ho : PV X sl .b o fd) (hi : PV X sl .b i fk) (hs : NoSl i := by intro _ _; rfl) : PV X sl .a (.Subscript o i pos) (fun s => (fd s).bind fun x => (fk s).bind fun y => kGet x y) :=
  PE.imp (pe_dget (by omega) ho hi hs) fun σ H Q ⟨γ, S0, S, t, E, hf, q⟩ => by
    obtain ⟨u, w, h1, h2, h3⟩ := bind2 hf
    refine ⟨γ, S0, S, u, E, h1, fun x H1 s1 r1 => ⟨γ, S0, S, w, E.same s1, h2, fun y H2 s2 r2 => ?_⟩⟩
    obtain ⟨a, es, rfl, g1, g2⟩ := rb_d (Rb.mv (.same s2) r1 s2)
    obtain rfl := KeyT.rp _ _ _ _ _ r2
    rcases rpk_get w g2 with ⟨t', v, e1, e2, e3⟩ | ⟨e1, _⟩
    · have e4 : t' = t := Option.some.inj (e1.symm.trans h3)
      subst e4
      exact ⟨a, v, rfl, .inl ⟨es, _, g1, rfl, e2.symm⟩, q _ H2 (s1.trans s2) e3⟩
    · have e1 : kGet u w = none := e1
      rw [e1] at h3; cases h3

theorem pv_inD (hu : X.A.units + 64 < cLine) (hi : PV X sl .b i fk) (ho : PV X sl .b o fd) (hm : behindInMarks .In o = false := by first | exact nomark _ | with_unfolding_all rfl) : PV X sl .a (.Compare i [.In] [o] pos) (fun s => (fk s).bind fun y => (fd s).bind fun x => kIn y x) :=
  PE.imp (pe_cmp (pc_din (by omega) hi ho) hm) fun σ H Q ⟨γ, S0, S, t, E, hf, q⟩ => by
    obtain ⟨u, w, h1, h2, h3⟩ := bind2 hf
    cases h3
    refine ⟨γ, S0, S, u, E, h1, fun x H1 s1 r1 => ⟨γ, S0, S, w, E.same s1, h2, fun y H2 s2 r2 => ?_⟩⟩
    obtain ⟨a, es, rfl, g1, g2⟩ := rb_d r2
    obtain rfl := KeyT.rp _ _ _ _ _ r1
    refine ⟨a, _, rfl, .inl ⟨es, _, g1, rfl, rfl⟩, q _ H2 (s1.trans s2) ?_⟩
    rcases rpk_get u g2 with ⟨t', v, e1, e2, e3⟩ | ⟨e1, e2⟩
    · rw [e2]; show V.bl _ = V.bl _; rw [show kGet w u = some t' from e1]; rfl
    · rw [e2]; show V.bl _ = V.bl _; rw [show kGet w u = none from e1]; rfl
theorem pv_ninD (hu : X.A.units + 64 < cLine) (hi : PV X sl .b i fk) (ho : PV X sl .b o fd) (hm : behindInMarks .NotIn o = false := by first | exact nomark _ | with_unfolding_all rfl) : PV X sl .a (.Compare i [.NotIn] [o] pos) (fun s => (fk s).bind fun y => (fd s).bind fun x => kNin y x) :=
  PE.imp (pe_cmp (pc_dnotin (by omega) hi ho) hm) fun σ H Q ⟨γ, S0, S, t, E, hf, q⟩ => by
    obtain ⟨u, w, h1, h2, h3⟩ := bind2 hf
    cases h3
    refine ⟨γ, S0, S, u, E, h1, fun x H1 s1 r1 => ⟨γ, S0, S, w, E.same s1, h2, fun y H2 s2 r2 => ?_⟩⟩
    obtain ⟨a, es, rfl, g1, g2⟩ := rb_d r2
    obtain rfl := KeyT.rp _ _ _ _ _ r1
    refine ⟨a, _, rfl, .inl ⟨es, _, g1, rfl, rfl⟩, q _ H2 (s1.trans s2) ?_⟩
    rcases rpk_get u g2 with ⟨t', v, e1, e2, e3⟩ | ⟨e1, e2⟩
    · rw [e2]; show V.bl _ = V.bl _; rw [show kGet w u = some t' from e1]; rfl
    · rw [e2]; show V.bl _ = V.bl _; rw [show kGet w u = none from e1]; rfl
theorem pb_inD (hu : X.A.units + 64 < cLine) (hi : PV X sl .b i fk) (ho : PV X sl .b o fd) (hm : behindInMarks .In o = false := by first | exact nomark _ | with_unfolding_all rfl) : PB X sl (.Compare i [.In] [o] pos) (fun s => (fk s).bind fun y => (fd s).bind fun x => kIn y x) :=
  PT.imp (pt_cmp (pc_din (by omega) hi ho) hm) fun σ H Q ⟨γ, S0, S, t, E, hf, q⟩ => by
    obtain ⟨u, w, h1, h2, h3⟩ := bind2 hf
    cases h3
    refine ⟨γ, S0, S, u, E, h1, fun x H1 s1 r1 => ⟨γ, S0, S, w, E.same s1, h2, fun y H2 s2 r2 => ?_⟩⟩
    obtain ⟨a, es, rfl, g1, g2⟩ := rb_d r2
    obtain rfl := KeyT.rp _ _ _ _ _ r1
    refine ⟨a, _, rfl, .inl ⟨es, _, g1, rfl, rfl⟩, ⟨_, ?_, q H2 (s1.trans s2)⟩⟩
    rcases rpk_get u g2 with ⟨t', v, e1, e2, e3⟩ | ⟨e1, e2⟩
    · rw [e2]; show V.bl _ = V.bl _; rw [show kGet w u = some t' from e1]; rfl
    · rw [e2]; show V.bl _ = V.bl _; rw [show kGet w u = none from e1]; rfl
theorem pb_ninD (hu : X.A.units + 64 < cLine) (hi : PV X sl .b i fk) (ho : PV X sl .b o fd) (hm : behindInMarks .NotIn o = false := by first | exact nomark _ | with_unfolding_all rfl) : PB X sl (.Compare i [.NotIn] [o] pos) (fun s => (fk s).bind fun y => (fd s).bind fun x => kNin y x) :=
  PT.imp (pt_cmp (pc_dnotin (by omega) hi ho) hm) fun σ H Q ⟨γ, S0, S, t, E, hf, q⟩ => by
    obtain ⟨u, w, h1, h2, h3⟩ := bind2 hf
    cases h3
    refine ⟨γ, S0, S, u, E, h1, fun x H1 s1 r1 => ⟨γ, S0, S, w, E.same s1, h2, fun y H2 s2 r2 => ?_⟩⟩
    obtain ⟨a, es, rfl, g1, g2⟩ := rb_d r2
    obtain rfl := KeyT.rp _ _ _ _ _ r1
    refine ⟨a, _, rfl, .inl ⟨es, _, g1, rfl, rfl⟩, ⟨_, ?_, q H2 (s1.trans s2)⟩⟩
    rcases rpk_get u g2 with ⟨t', v, e1, e2, e3⟩ | ⟨e1, e2⟩
    · rw [e2]; show V.bl _ = V.bl _; rw [show kGet w u = some t' from e1]; rfl
    · rw [e2]; show V.bl _ = V.bl _; rw [show kGet w u = none from e1]; rfl
/-- d[k] = v, d an owned dict -/
theorem sv_dput [Enc ρ] {x : Str} {j : Nat} {value ix : Expr} {fv : Γ → Option τ} {p0 p1 : Pos} (q : Γ → Dct κ τ) (set : Γ → Dct κ τ → Γ') (hu : X.A.units + 64 < cLine) (hq : ∀ g, (sl g)[j]? = some (some (.o, enc (q g)))) (h : ∀ g t, sl' (set g t) = (sl g).set j (some (.o, enc t)))
    (hv : PV X sl .a value fv) (hi : PV X sl .b ix fk) (hN : X.N[j]? = some x := by rfl)
    (hvis : Vis X.env.scope x := by first | exact Or.inl rfl | exact Or.inr (Or.inl rfl) | exact Or.inr (Or.inr rfl)) (hd : (x == ("__debug__" : Str)) = false := by decide) (hcd : (x == ("__classdict__" : Str)) = false := by decide)
    (hs : swapsWith value (some (.Subscript (.Name x p0) ix p1)) pos.line X.env = pure false := by rfl) :
    SV (ρ := ρ) X sl sl' kr (.Assign [.Subscript (.Name x p0) ix p1] value pos) (fun g => (fv g).bind fun t => (fk g).bind fun k => (kPut (q g) k t).bind fun l => some (.nx (set g l))) :=
  PS.imp (ps_dput (by omega) (pe_var (i := j) hN hvis hd hcd) hi hv hs) fun D σ H ⟨γ, S0, S, o, E, hf, p⟩ => by
    obtain ⟨t, e1, e2⟩ := bind1 hf
    obtain ⟨k, e3, e4⟩ := bind1 e2
    obtain ⟨l, e5, e6⟩ := bind1 e4
    cases e6
    obtain ⟨hz, rfl⟩ := if_some e5
    refine ⟨γ, S0, S, t, E, e1, fun y H1 s1 r1 => ?_⟩
    have E1 := E.same s1
    obtain ⟨v, h1, a, rfl, h2, h3⟩ := E1.at_ j _ _ (hq γ)
    refine ⟨_, h1, γ, S0, S, k, E1, e3, fun z H2 s2 r2 => ?_⟩
    have E2 := E1.same s2
    obtain rfl := KeyT.rp _ _ _ _ _ r2
    rcases h3 with ⟨_, _, e1', _⟩ | ⟨kvs, es, e1', g1, g2⟩
    · cases e1'
    · cases e1'
      have g3 := s2 _ _ g1
      have g4 : RpK X.K H2 (un S S0) ((q γ).es.map eE) es := RpK.mv (.same s2) _ _ g2
      refine ⟨a, _, rfl, .inl ⟨es, _, g3, rfl, by rw [rpk_len g4]; exact hz, rfl⟩, ?_⟩
      obtain ⟨mv, E3⟩ := E2.chg (u := .dK (putK es (KeyT.key k) y)) (d' := enc (⟨if ((q γ).es.any fun q => decide (q.1 = k)) = true then (q γ).es.map (fun q => if q.1 = k then (q.1, t) else q) else (q γ).es ++ [(k, t)]⟩ : Dct κ τ)) (hq γ) h1 h2 fun mv => .inr ⟨_, _, rfl, upd_same, by
        have g5 := RpK.mv mv.un _ _ g4
        have r3 : Rp X.K _ _ (enc t) y := Rp.mv mv.un _ _ (Rp.mv (.same s2) _ _ r1)
        exact rpk_put k r3 g5⟩
      refine p _ _ S ?_ ((Mv.same (s1.trans s2)).trans mv)
      rw [h]
      exact E3
end PL

/-! PL13: texts. -/
namespace PL
open PySem PySem.Spec L2
open Enc (enc)
variable {Γ Γ' ρ τ : Type} {X : Cx} {sl : Γ → Sl} {sl' : Γ' → Sl} {e o i : Expr} {pos apos : Pos} {kr : Kd}
def jL (a : List Nat) : List (List Nat) → List Nat
  | [] => []
  | [p] => p
  | p :: q :: r => p ++ (a ++ jL a (q :: r))
theorem jL_eq (a : List Nat) : ∀ ys, TL.joinL a ys = jL a ys
  | [] => rfl
  | [p] => rfl
  | p :: q :: r => by
    have := jL_eq a (q :: r)
    show p ++ (a ++ TL.joinL a (q :: r)) = p ++ (a ++ jL a (q :: r))
    rw [this]
def tJn (x : Tx) (ys : List Tx) : Option Tx := if (ys.map fun t => t.cs.length).sum + ys.length * x.cs.length ≤ 16777216 then some ⟨jL x.cs (ys.map fun t => t.cs)⟩ else none
theorem rpa_txs {K : PySem.W.Frag} {H : Hp} {T : Ad} : ∀ {t : List Tx} {xs : List V}, RpA K H T (t.map enc) xs → xs = ((t.map fun q => q.cs).map SX.S).map V.str
  | [], xs, h => by have h : xs = [] := h; rw [h]; rfl
  | t :: ts, xs, h => by
    obtain ⟨v, vs, rfl, h1, h2⟩ := h
    have h1 : v = .str ⟨t.cs.toArray⟩ := h1
    rw [rpa_txs h2, h1]
    rfl
theorem pv_join {fo : Γ → Option Tx} {fe : Γ → Option (List Tx)} (ho : PV X sl .b o fo) (he : PV X sl .b e fe) (hs : starEach [e] X.env = [(false, eval e X.env)] := by rfl) (hbase : attributeBase o "join" X.env (eval o X.env) = eval o X.env := by rfl) (hline : (apos.endLine == pos.line) = true := by rfl) :
    PV X sl .a (.Call (.Attribute o "join" apos) [e] [] pos) (fun s => (fo s).bind fun x => (fe s).bind fun y => tJn x y) :=
  PE.imp (pe_join ho he hs hbase hline) fun σ H Q ⟨γ, S0, S, t, E, hf, q⟩ => by
    obtain ⟨u, w, h1, h2, h3⟩ := bind2 hf
    obtain ⟨hz, rfl⟩ := if_some h3
    refine ⟨γ, S0, S, u, E, h1, fun x H1 s1 r1 => ⟨⟨_, rb_t r1⟩, γ, S0, S, w, E.same s1, h2, fun y H2 s2 r2 => ?_⟩⟩
    obtain ⟨p, xs, rfl, g1, g2⟩ := rb_l r2
    refine ⟨_, p, (w.map fun q => q.cs).map SX.S, rb_t r1, rfl, .inl (by rw [← rpa_txs g2]; exact g1), ?_, q _ H2 (s1.trans s2) ?_⟩
    · simp only [List.map_map, List.length_map]
      exact hz
    · have := SX.join_S u.cs (w.map fun q => q.cs)
      rw [jL_eq] at this
      show V.str _ = V.str _
      exact congrArg V.str this

/-- the first place of a sign -/
def fIx (c : Nat) : List Nat → Nat → Option Nat
  | [], _ => none
  | d :: l, n => if d = c then some n else fIx c l (n + 1)
def tIndex (x y : Tx) : Option Int := match y.cs with
  | [c] => (fIx c x.cs 0).map fun n => (n : Int)
  | _ => none
theorem fIx_spec {c : Nat} : ∀ {l : List Nat} {n k : Nat}, fIx c l n = some k → ∃ i, k = n + i ∧ l[i]? = some c ∧ ∀ j, j < i → l[j]? ≠ some c
  | [], n, k, h => by cases h
  | d :: l, n, k, h => by
    unfold fIx at h
    by_cases e : d = c
    · rw [if_pos e] at h; cases h
      exact ⟨0, rfl, by rw [e]; rfl, fun j hj => by omega⟩
    · rw [if_neg e] at h
      obtain ⟨i, h1, h2, h3⟩ := fIx_spec h
      refine ⟨i + 1, by omega, by simpa using h2, fun j hj => ?_⟩
      cases j with
      | zero => intro z; exact e (by simpa using z)
      | succ j => have := h3 j (by omega); simpa using this
theorem occ_fst {l : List Nat} {c i : Nat} (h1 : l[i]? = some c) (h2 : ∀ j, j < i → l[j]? ≠ some c) : ∃ r, Builtin.Str.occurrences (SX.S l) ⟨#[c]⟩ 0 (SX.S l).length 1 = i :: r := by
  rw [StrLaws.occ_eq]
  have at_iff : ∀ j, StrLaws.At (SX.S l) ⟨#[c]⟩ (SX.S l).length j ↔ l[j]? = some c := fun j => by
    have := StrLaws.subAt_one (SX.S l) c j
    simpa [StrLaws.At] using this
  have il : i < l.length := by
    rcases Nat.lt_or_ge i l.length with h | h
    · exact h
    · rw [List.getElem?_eq_none h] at h1; cases h1
  rcases StrLaws.occ_first (SX.S l) ⟨#[c]⟩ (SX.S l).length 1 (Nat.le_refl 1) (List.range' 0 ((SX.S l).length + 1 - 0)) 0 (fun _ _ => Nat.zero_le _) with ⟨_, h⟩ | ⟨pre, a, post, e, h, ha, hp⟩
  · refine absurd ((at_iff i).mpr h1) (h i ?_)
    rw [List.mem_range'_1]
    refine ⟨Nat.zero_le _, ?_⟩
    show i < 0 + (l.toArray.size + 1 - 0)
    simp; omega
  · have e1 : a = i := by
      have ha2 := (at_iff a).mp ha
      have e2 : pre.length = a := by
        have := congrArg (fun q => q[pre.length]?) e
        simp only [List.getElem?_append_right (Nat.le_refl _), Nat.sub_self, List.getElem?_cons_zero] at this
        rw [List.getElem?_range'] at this
        · simpa using this
        · have := congrArg List.length e
          simp at this ⊢
          omega
      rcases Nat.lt_trichotomy a i with h3 | h3 | h3
      · exact absurd ha2 (h2 a h3)
      · exact h3
      · refine absurd ((at_iff i).mpr h1) (hp i ?_)
        have : pre[i]? = some i := by
          have := congrArg (fun q => q[i]?) e
          simp only [List.getElem?_append_left (show i < pre.length by omega)] at this
          rw [List.getElem?_range'] at this
          · simpa using this.symm
          · have := congrArg List.length e
            simp at this ⊢
            omega
        exact List.mem_of_getElem? this
    subst e1
    cases q : (forIn (List.range' 0 ((SX.S l).length + 1 - 0)) ((#[] : Array Nat), 0) (StrLaws.occBody (SX.S l) ⟨#[c]⟩ (SX.S l).length 1)).run.fst.toList with
    | nil =>
      have h' := h
      rw [← Array.getElem?_toList, q] at h'
      cases h'
    | cons b r =>
      refine ⟨r, ?_⟩
      have h' := h
      rw [← Array.getElem?_toList, q] at h'
      cases h'
      rfl
theorem pv_indexS {fo fe : Γ → Option Tx} (ho : PV X sl .b o fo) (he : PV X sl .b e fe) (hs : starEach [e] X.env = [(false, eval e X.env)] := by rfl) (hbase : attributeBase o "index" X.env (eval o X.env) = eval o X.env := by rfl) (hline : (apos.endLine == pos.line) = true := by rfl) :
    PV X sl .a (.Call (.Attribute o "index" apos) [e] [] pos) (fun s => (fo s).bind fun x => (fe s).bind fun y => tIndex x y) :=
  PE.imp (pe_m1 PySem.F.slot_str_index PySem.F.type_str_index mt_sindex ho he hs hbase hline) fun σ H Q ⟨γ, S0, S, t, E, hf, q⟩ => by
    obtain ⟨u, w, h1, h2, h3⟩ := bind2 hf
    refine ⟨γ, S0, S, u, E, h1, fun x H1 s1 r1 => ⟨⟨_, rb_t r1⟩, γ, S0, S, w, E.same s1, h2, fun y H2 s2 r2 => ?_⟩⟩
    obtain ⟨ucs⟩ := u
    obtain ⟨wcs⟩ := w
    unfold tIndex at h3
    rcases wcs with _ | ⟨c, _ | _⟩
    · cases h3
    · simp only at h3
      cases e5 : fIx c ucs 0 with
      | none => rw [e5] at h3; cases h3
      | some k =>
        rw [e5] at h3
        cases h3
        obtain ⟨i, e6, g1, g2⟩ := fIx_spec e5
        rw [Nat.zero_add] at e6
        subst e6
        obtain ⟨r, g3⟩ := occ_fst g1 g2
        exact ⟨_, _, k, r, rb_t r1, by rw [rb_t r2], g3, q _ H2 (s1.trans s2) rfl⟩
    · cases h3
/-- membership of one sign -/
def tIn (y x : Tx) : Option Bool := match y.cs with
  | [c] => some (decide (c ∈ x.cs))
  | _ => none
def c_inT : Cmp X .In Tx Tx (fun y x => tIn y x) := ⟨_, op_in_str, fun T H x y u w t Q hT r1 r2 e q => by
  obtain ⟨ucs⟩ := u
  obtain ⟨wcs⟩ := w
  unfold tIn at e
  rcases ucs with _ | ⟨c, _ | _⟩
  · cases e
  · cases e
    refine ⟨_, _, rb_t r1, rb_t r2, q _ H (Same.refl H) ?_⟩
    exact congrArg V.bl (StrLaws.found_one ⟨wcs.toArray⟩ c)
  · cases e⟩

def c_ninT : Cmp X .NotIn Tx Tx (fun y x => (tIn y x).map (!·)) := ⟨_, op_notin_str, fun T H x y u w t Q hT r1 r2 e q => by
  obtain ⟨ucs⟩ := u
  obtain ⟨wcs⟩ := w
  unfold tIn at e
  rcases ucs with _ | ⟨c, _ | _⟩
  · cases e
  · cases e
    refine ⟨_, _, rb_t r1, rb_t r2, q _ H (Same.refl H) ?_⟩
    exact congrArg (fun z => V.bl (!z)) (StrLaws.found_one ⟨wcs.toArray⟩ c)
  · cases e⟩
/-- one sign, many times -/
def tRep (x : Tx) (n : Int) : Option Tx := match x.cs with
  | [c] => if -(2 ^ 62) ≤ n ∧ n ≤ 16777216 then some ⟨List.replicate n.toNat c⟩ else none
  | _ => none
theorem op_repT1 : OpR X (binaryOp .Mult) (fun x y H Q => ∃ (c : Nat) (n : Int), x = .str ⟨#[c]⟩ ∧ y = .int n ∧ -(2 ^ 62) ≤ n ∧ n ≤ 16777216 ∧ Q (.str (SX.S (List.replicate n.toNat c))) H) := by
  intro pins s σ H x y v u Q I rx ry h
  obtain ⟨c, n, rfl, rfl, h1, h2, q⟩ := h
  obtain ⟨t, rfl⟩ := rx
  obtain ⟨t2, rfl⟩ := ry
  refine SB.mul ⟨?_, fun h3 h4 => ?_, fun h3 h4 => ?_⟩ fun t' k => ⟨.str _, H, I.tok _, ⟨t', ?_⟩, q⟩
  · rw [Bool.or_eq_false_iff]; exact ⟨decide_eq_false (by omega), decide_eq_false (by omega)⟩
  · show ¬ (((1 : Nat) : Int) > (2 ^ 63 - 1) / n)
    have : (1 : Int) ≤ (2 ^ 63 - 1) / n := (Int.le_ediv_iff_mul_le (by omega)).mpr (by omega)
    omega
  · show Builtin.Str.tooLong (1 * n.toNat) = false
    unfold Builtin.Str.tooLong
    exact decide_eq_false (by rw [show sizeLine = 16777216 by decide]; omega)
  · have := PyProof.Rows.mul_one_list c n
    congr 1
    rw [← this]
theorem pv_repS {a b : Expr} {fa : Γ → Option Tx} {fb : Γ → Option Int} (ha : PV X sl .b a fa) (hb : PV X sl .b b fb) : PV X sl .a (.BinOp a .Mult b pos) (fun s => (fa s).bind fun x => (fb s).bind fun y => tRep x y) :=
  pv_2 (pe_op op_repT1) (fun T H x y u w t Q hT r1 r2 e q => by
    obtain ⟨ucs⟩ := u
    unfold tRep at e
    rcases ucs with _ | ⟨c, _ | _⟩
    · cases e
    · simp only at e
      obtain ⟨⟨h1, h2⟩, rfl⟩ := if_some e
      exact ⟨c, w, by rw [rb_t r1], rb_i r2, h1, h2, q _ H (Same.refl H) rfl⟩
    · cases e) ha hb
end PL

/-! PL14: several names at once, one of them a new list or dict. -/
namespace PL
open PySem PySem.Spec L2
open Enc (enc)
variable {Γ Γ' ρ τ α β γ' : Type} {X : Cx} {sl : Γ → Sl} {sl' : Γ' → Sl} {a b c e o i : Expr} {pos apos : Pos} {kr : Kd}
theorem Fr.fwd {K : PySem.W.Frag} {H H1 H2 : Hp} {T : Ad} {d : PyData} {v : V} (h : Fr K H H1 T d v) (s : Same H1 H2) : Fr K H H2 T d v := by
  obtain ⟨p, rfl, hp, ⟨ds, xs, rfl, h1, h2⟩ | ⟨ds, xs, rfl, h1, h2⟩⟩ := h
  · exact ⟨p, rfl, hp, .inl ⟨ds, xs, rfl, s _ _ h1, h2.mv (.same s)⟩⟩
  · exact ⟨p, rfl, hp, .inr ⟨ds, xs, rfl, s _ _ h1, RpK.mv (.same s) _ _ h2⟩⟩
/-- the variables as they are, while a new object waits -/
theorem EnvS.wait {K : PySem.W.Frag} {S0 S : Ad} {H H' : Hp} {l : Sl} {σ : L2.St} {d : PyData} {v : V} (E : EnvS K S0 S H l σ) (s : Same H H') (r : Fr K H H' (un S S0) d v) : ∃ p, v = .ref p ∧ Mv S H (wi S p) H' ∧ EnvS K S0 (wi S p) H' l σ := by
  obtain ⟨p, e, m, q⟩ := E.seto' (i := l.length) s r
  rw [List.set_eq_of_length_le (Nat.le_refl _), List.set_eq_of_length_le (by rw [E.len]; exact Nat.le_refl _)] at q
  exact ⟨p, e, m, q⟩
theorem sv_par3_aoa [Enc ρ] [Enc α] [Enc β] [Enc γ'] {i j l : Nat} {x y z : Str} {px py pz pt : Pos} {kt k2 : Nat} {pt2 : Pos} {fa : Γ → Option α} {fb : Γ → Option β} {fc : Γ → Option γ'} (set : Γ → α → β → γ' → Γ') (h : ∀ g t u v, sl' (set g t u v) = (((sl g).set i (some (.a, enc t))).set j (some (.o, enc u))).set l (some (.a, enc v)))
    (hN : X.N.Nodup) (ha : PV X sl .a a fa) (hb : PV X sl .f b fb) (hc' : PV X sl .a c fc) (hij : i ≠ j := by decide) (hil : i ≠ l := by decide) (hjl : j ≠ l := by decide) (hi : X.N[i]? = some x := by rfl) (hj : X.N[j]? = some y := by rfl) (hl : X.N[l]? = some z := by rfl)
    (hx : X.env.scope.names.lookup x = some .local := by rfl) (hy : X.env.scope.names.lookup y = some .local := by rfl) (hz : X.env.scope.names.lookup z = some .local := by rfl) (hc : X.calm = true := by rfl)
    (h1 : starEach [a, b, c] X.env = (false, eval a X.env) :: starEach [b, c] X.env := by rfl) (h2 : starEach [b, c] X.env = (false, eval b X.env) :: starEach [c] X.env := by rfl) (h3 : starEach [c] X.env = (false, eval c X.env) :: starEach [] X.env := by rfl)
    (hw : swappedStores [.Tuple [.Name x px, .Name y py, .Name z pz] kt pt] (.Tuple [a, b, c] k2 pt2) X.env = pure (some [x, y, z]) := by rfl)
    (hs : swapsWithSole [.Tuple [.Name x px, .Name y py, .Name z pz] kt pt] (.Tuple [a, b, c] k2 pt2) pos.line X.env = pure false := by rfl) :
    SV (ρ := ρ) X sl sl' kr (.Assign [.Tuple [.Name x px, .Name y py, .Name z pz] kt pt] (.Tuple [a, b, c] k2 pt2) pos) (fun g => (fa g).bind fun t => (fb g).bind fun u => (fc g).bind fun v => some (.nx (set g t u v))) :=
  PS.imp (ps_par3 hc hN hi hj hl hij hil hjl hx hy hz (pa_cons ha (pa_cons hb (pa_cons hc' pa_nil h3) h2) h1) hw hs) fun D σ H ⟨γ, S0, S, o, E, hf, p⟩ => by
    obtain ⟨t, u, e1, e2, e3⟩ := bind2 hf
    obtain ⟨v, e4, e5⟩ := bind1 e3
    cases e5
    refine ⟨γ, S0, S, t, E, e1, fun v1 H1 s1 r1 => ⟨γ, S0, S, u, E.same s1, e2, fun v2 H2 s2 r2 => ?_⟩⟩
    have E1 := E.same s1
    obtain ⟨p2, q2, m2, E2⟩ := E1.wait s2 r2
    refine ⟨γ, S0, _, v, E2, e4, fun v3 H3 s3 r3 => ⟨v1, v2, v3, rfl, ?_⟩⟩
    have s23 := s2.trans s3
    obtain ⟨p3, q3, m3, E3⟩ := (E1.seta (i := i) r1).seto' (i := j) s23 (r2.fwd s3)
    have e : p2 = p3 := by
      have := q2.symm.trans q3
      injection this
    subst e
    refine p _ _ _ ?_ ((Mv.same s1).trans m3)
    rw [h]
    exact E3.seta r3
theorem sv_par3_oaa [Enc ρ] [Enc α] [Enc β] [Enc γ'] {i j l : Nat} {x y z : Str} {px py pz pt : Pos} {kt k2 : Nat} {pt2 : Pos} {fa : Γ → Option α} {fb : Γ → Option β} {fc : Γ → Option γ'} (set : Γ → α → β → γ' → Γ') (h : ∀ g t u v, sl' (set g t u v) = (((sl g).set i (some (.o, enc t))).set j (some (.a, enc u))).set l (some (.a, enc v)))
    (hN : X.N.Nodup) (ha : PV X sl .f a fa) (hb : PV X sl .a b fb) (hc' : PV X sl .a c fc) (hij : i ≠ j := by decide) (hil : i ≠ l := by decide) (hjl : j ≠ l := by decide) (hi : X.N[i]? = some x := by rfl) (hj : X.N[j]? = some y := by rfl) (hl : X.N[l]? = some z := by rfl)
    (hx : X.env.scope.names.lookup x = some .local := by rfl) (hy : X.env.scope.names.lookup y = some .local := by rfl) (hz : X.env.scope.names.lookup z = some .local := by rfl) (hc : X.calm = true := by rfl)
    (h1 : starEach [a, b, c] X.env = (false, eval a X.env) :: starEach [b, c] X.env := by rfl) (h2 : starEach [b, c] X.env = (false, eval b X.env) :: starEach [c] X.env := by rfl) (h3 : starEach [c] X.env = (false, eval c X.env) :: starEach [] X.env := by rfl)
    (hw : swappedStores [.Tuple [.Name x px, .Name y py, .Name z pz] kt pt] (.Tuple [a, b, c] k2 pt2) X.env = pure (some [x, y, z]) := by rfl)
    (hs : swapsWithSole [.Tuple [.Name x px, .Name y py, .Name z pz] kt pt] (.Tuple [a, b, c] k2 pt2) pos.line X.env = pure false := by rfl) :
    SV (ρ := ρ) X sl sl' kr (.Assign [.Tuple [.Name x px, .Name y py, .Name z pz] kt pt] (.Tuple [a, b, c] k2 pt2) pos) (fun g => (fa g).bind fun t => (fb g).bind fun u => (fc g).bind fun v => some (.nx (set g t u v))) :=
  PS.imp (ps_par3 hc hN hi hj hl hij hil hjl hx hy hz (pa_cons ha (pa_cons hb (pa_cons hc' pa_nil h3) h2) h1) hw hs) fun D σ H ⟨γ, S0, S, o, E, hf, p⟩ => by
    obtain ⟨t, u, e1, e2, e3⟩ := bind2 hf
    obtain ⟨v, e4, e5⟩ := bind1 e3
    cases e5
    refine ⟨γ, S0, S, t, E, e1, fun v1 H1 s1 r1 => ?_⟩
    obtain ⟨p2, q2, m2, E2⟩ := E.wait s1 r1
    refine ⟨γ, S0, _, u, E2, e2, fun v2 H2 s2 r2 => ⟨γ, S0, _, v, E2.same s2, e4, fun v3 H3 s3 r3 => ⟨v1, v2, v3, rfl, ?_⟩⟩⟩
    have s23 := s2.trans s3
    obtain ⟨p3, q3, m3, E3⟩ := E.seto' (i := i) (s1.trans s23) (r1.fwd s23)
    have e : p2 = p3 := by
      have := q2.symm.trans q3
      injection this
    subst e
    refine p _ _ _ ?_ m3
    rw [h]
    exact (E3.seta (Rp.mv (.same s3) _ _ r2)).seta r3
theorem sv_par_oa [Enc ρ] [Enc α] [Enc β] {i j : Nat} {x y : Str} {px py pt : Pos} {kt k2 : Nat} {pt2 : Pos} {fa : Γ → Option α} {fb : Γ → Option β} (set : Γ → α → β → Γ') (h : ∀ g t u, sl' (set g t u) = ((sl g).set i (some (.o, enc t))).set j (some (.a, enc u)))
    (hN : X.N.Nodup) (ha : PV X sl .f a fa) (hb : PV X sl .a b fb) (hij : i ≠ j := by decide) (hi : X.N[i]? = some x := by rfl) (hj : X.N[j]? = some y := by rfl) (hx : X.env.scope.names.lookup x = some .local := by rfl) (hy : X.env.scope.names.lookup y = some .local := by rfl) (hc : X.calm = true := by rfl)
    (h1 : starEach [a, b] X.env = (false, eval a X.env) :: starEach [b] X.env := by rfl) (h2 : starEach [b] X.env = (false, eval b X.env) :: starEach [] X.env := by rfl)
    (hw : swappedStores [.Tuple [.Name x px, .Name y py] kt pt] (.Tuple [a, b] k2 pt2) X.env = pure (some [x, y]) := by rfl)
    (hs : swapsWithSole [.Tuple [.Name x px, .Name y py] kt pt] (.Tuple [a, b] k2 pt2) pos.line X.env = pure false := by rfl) :
    SV (ρ := ρ) X sl sl' kr (.Assign [.Tuple [.Name x px, .Name y py] kt pt] (.Tuple [a, b] k2 pt2) pos) (fun g => (fa g).bind fun t => (fb g).bind fun u => some (.nx (set g t u))) :=
  PS.imp (ps_par hc hN hi hj hij hx hy (pa_cons ha (pa_cons hb pa_nil h2) h1) hw hs) fun D σ H ⟨γ, S0, S, o, E, hf, p⟩ => by
    obtain ⟨t, u, e1, e2, e3⟩ := bind2 hf
    cases e3
    refine ⟨γ, S0, S, t, E, e1, fun v H1 s1 r1 => ?_⟩
    obtain ⟨p2, q2, m2, E2⟩ := E.wait s1 r1
    refine ⟨γ, S0, _, u, E2, e2, fun w H2 s2 r2 => ⟨v, w, rfl, ?_⟩⟩
    obtain ⟨p3, q3, m3, E3⟩ := E.seto' (i := i) (s1.trans s2) (r1.fwd s2)
    have e : p2 = p3 := by
      have := q2.symm.trans q3
      injection this
    subst e
    refine p _ _ _ ?_ m3
    rw [h]
    exact E3.seta r2
end PL

/-! PL15: the place in a list of ints. -/
namespace PL
open PySem PySem.Spec L2
open Enc (enc)
variable {Γ : Type} {X : Cx} {sl : Γ → Sl} {e o : Expr} {apos cpos : Pos}
def fIxI (c : Int) : List Int → Nat → Option Nat
  | [], _ => none
  | d :: l, n => if d = c then some n else fIxI c l (n + 1)
def lIndex (x : List Int) (y : Int) : Option Int := (fIxI y x 0).map fun n => (n : Int)
theorem fIxI_spec {c : Int} : ∀ {l : List Int} {n k : Nat}, fIxI c l n = some k → ∃ i, k = n + i ∧ l[i]? = some c ∧ ∀ j, j < i → l[j]? ≠ some c
  | [], n, k, h => by cases h
  | d :: l, n, k, h => by
    unfold fIxI at h
    by_cases e : d = c
    · rw [if_pos e] at h; cases h
      exact ⟨0, rfl, by rw [e]; rfl, fun j hj => by omega⟩
    · rw [if_neg e] at h
      obtain ⟨i, h1, h2, h3⟩ := fIxI_spec h
      refine ⟨i + 1, by omega, by simpa using h2, fun j hj => ?_⟩
      cases j with
      | zero => intro z; exact e (by simpa using z)
      | succ j => have := h3 j (by omega); simpa using this
theorem pv_index {fo : Γ → Option (List Int)} {fe : Γ → Option Int} (ho : PV X sl .b o fo) (he : PV X sl .b e fe)
    (hbase : attributeBase o "index" X.env (eval o X.env) = eval o X.env := by rfl)
    (hfew : ((backTo cpos (starEach [e] X.env)).all (fun x => !x.1) && (backToKw cpos (keywordEach [] X.env)).all (fun x => x.1.isSome)
      && decide ([e].length + ([] : List Keyword).length + (if ([] : List Keyword).isEmpty then 0 else 1) < 30)) = true := by rfl)
    (hline : (apos.endLine == cpos.line) = true := by rfl) (hs1 : starEach [e] X.env = (false, eval e X.env) :: starEach [] X.env := by rfl) (hplain : (backTo cpos (starEach [] X.env)).any (·.1) = false := by rfl) :
    PV X sl .a (.Call (.Attribute o "index" apos) [e] [] cpos) (fun s => (fo s).bind fun x => (fe s).bind fun y => lIndex x y) :=
  PE.imp (pe_bm PySem.F.plainAttrs_list PySem.F.slot_list_index PySem.F.type_list_index mt_index ho (pa_cons he pa_nil hs1) hbase hfew hline hs1 hplain) fun σ H Q ⟨γ, S0, S, t, E, hf, q⟩ => by
    obtain ⟨u, w, h1, h2, h3⟩ := bind2 hf
    refine ⟨γ, S0, S, u, E, h1, fun x H1 s1 r1 => ?_⟩
    obtain ⟨a, xs, rfl, g1, g2⟩ := rb_l r1
    refine ⟨.inl ⟨rfl, xs, g1⟩, γ, S0, S, w, E.same s1, h2, fun y H2 s2 r2 => ?_⟩
    cases e5 : fIxI w u 0 with
    | none => unfold lIndex at h3; rw [e5] at h3; cases h3
    | some k =>
      unfold lIndex at h3
      rw [e5] at h3
      cases h3
      obtain ⟨i, e6, g3, g4⟩ := fIxI_spec e5
      rw [Nat.zero_add] at e6
      subst e6
      obtain rfl := rpa_int g2
      obtain rfl := rb_i r2
      refine ⟨a, _, .int w, k, .int w, rfl, rfl, s2.seq g1, rfl, ?_, by rw [List.getElem?_map, g3]; rfl, ?_, fun m z' hm hz => ?_, q _ H2 (s1.trans s2) rfl⟩
      · rw [List.all_eq_true]
        intro v hv
        obtain ⟨i, _, rfl⟩ := List.mem_map.mp hv
        rfl
      · simp [eqV]
      · rw [List.getElem?_map] at hz
        cases e7 : u[m]? with
        | none => rw [e7] at hz; cases hz
        | some i =>
          rw [e7] at hz
          cases hz
          have : i ≠ w := fun z => g4 m hm (by rw [e7, z])
          simp [eqV, this]
end PL

/-! PL16: x, y, z = (a, new, c), through a tuple. -/
namespace PL
open PySem PySem.Spec L2
open Enc (enc)
variable {Γ Γ' ρ τ α β γ' : Type} {X : Cx} {sl : Γ → Sl} {sl' : Γ' → Sl} {a b c : Expr} {pos : Pos} {kr : Kd}
theorem sv_tup3_aoa [Enc ρ] [Enc α] [Enc β] [Enc γ'] {i j l : Nat} {x y z : Str} {px py pz pt : Pos} {kt k2 : Nat} {pt2 : Pos} {fa : Γ → Option α} {fb : Γ → Option β} {fc : Γ → Option γ'} (set : Γ → α → β → γ' → Γ') (h : ∀ g t u v, sl' (set g t u v) = (((sl g).set i (some (.a, enc t))).set j (some (.o, enc u))).set l (some (.a, enc v)))
    (hN : X.N.Nodup) (ha : PV X sl .a a fa) (hb : PV X sl .f b fb) (hc' : PV X sl .a c fc) (hi : X.N[i]? = some x := by rfl) (hj : X.N[j]? = some y := by rfl) (hl : X.N[l]? = some z := by rfl)
    (hx : Loc X.env.scope x := by first | exact .inl rfl | exact .inr rfl) (hy : Loc X.env.scope y := by first | exact .inl rfl | exact .inr rfl) (hz : Loc X.env.scope z := by first | exact .inl rfl | exact .inr rfl)
    (fx : X.fn x = true ∨ X.env.scope.names.lookup x = some .local := by first | exact .inl rfl | exact .inr rfl) (fy : X.fn y = true ∨ X.env.scope.names.lookup y = some .local := by first | exact .inl rfl | exact .inr rfl) (fz : X.fn z = true ∨ X.env.scope.names.lookup z = some .local := by first | exact .inl rfl | exact .inr rfl) (hc : X.calm = true := by rfl)
    (h1 : starEach [a, b, c] X.env = (false, eval a X.env) :: starEach [b, c] X.env := by rfl) (h2 : starEach [b, c] X.env = (false, eval b X.env) :: starEach [c] X.env := by rfl) (h3 : starEach [c] X.env = (false, eval c X.env) :: starEach [] X.env := by rfl)
    (hs : swapsWithSole [.Tuple [.Name x px, .Name y py, .Name z pz] kt pt] (.Tuple [a, b, c] k2 pt2) pos.line X.env = pure false := by rfl)
    (hw : swappedStores [.Tuple [.Name x px, .Name y py, .Name z pz] kt pt] (.Tuple [a, b, c] k2 pt2) X.env = pure none := by rfl)
    (q1 : (assignEach [.Tuple [.Name x px, .Name y py, .Name z pz] kt pt] X.env).map (·.2) = [assign (.Tuple [.Name x px, .Name y py, .Name z pz] kt pt) X.env] := by rfl)
    (q2 : (assignEach [.Name x px, .Name y py, .Name z pz] X.env).length = 3 := by rfl) (q3 : (assignEach [.Name x px, .Name y py, .Name z pz] X.env).findIdx? (·.1) = none := by rfl)
    (q4 : (assignEach [.Name x px, .Name y py, .Name z pz] X.env).map (·.2) = assign (.Name x px) X.env :: (assignEach [.Name y py, .Name z pz] X.env).map (·.2) := by rfl)
    (q5 : (assignEach [.Name y py, .Name z pz] X.env).map (·.2) = assign (.Name y py) X.env :: (assignEach [.Name z pz] X.env).map (·.2) := by rfl)
    (q6 : (assignEach [.Name z pz] X.env).map (·.2) = assign (.Name z pz) X.env :: (assignEach [] X.env).map (·.2) := by rfl) :
    SV (ρ := ρ) X sl sl' kr (.Assign [.Tuple [.Name x px, .Name y py, .Name z pz] kt pt] (.Tuple [a, b, c] k2 pt2) pos) (fun g => (fa g).bind fun t => (fb g).bind fun u => (fc g).bind fun v => some (.nx (set g t u v))) :=
  PS.imp (ps_asg (pe_tup (pa_cons ha (pa_cons hb (pa_cons hc' pa_nil h3) h2) h1)) (pg_tup hc (pgs_cons (pg_name hN hi hx fx) (pgs_cons (pg_name hN hj hy fy) (pgs_cons (pg_name hN hl hz fz) pgs_nil q6) q5) q4) q2 q3) hs hw q1) fun D σ H ⟨γ, S0, S, o, E, hf, p⟩ => by
    obtain ⟨t, u, e1, e2, e3⟩ := bind2 hf
    obtain ⟨v, e4, e5⟩ := bind1 e3
    cases e5
    refine ⟨γ, S0, S, t, E, e1, fun v1 H1 s1 r1 => ⟨γ, S0, S, u, E.same s1, e2, fun v2 H2 s2 r2 => ?_⟩⟩
    have E1 := E.same s1
    obtain ⟨p2, g2, m2, E2⟩ := E1.wait s2 r2
    refine ⟨γ, S0, _, v, E2, e4, fun v3 H3 s3 r3 => ⟨by show 3 ≤ sizeLine; decide, fun q hq => ?_⟩⟩
    have s4 := same_new (o := .tup [v1, v2, v3]) hq
    have s34 := s3.trans s4
    have s24 := s2.trans s34
    obtain ⟨p3, g3, m3, E3⟩ := (E1.seta (i := i) r1).seto' (i := j) s24 (r2.fwd s34)
    have e : p2 = p3 := by
      have := g2.symm.trans g3
      injection this
    subst e
    refine ⟨q, [v1, v2, v3], rfl, .of upd_same, rfl, v1, _, rfl, v2, _, rfl, v3, _, rfl, rfl, ?_⟩
    refine p _ _ _ ?_ ((Mv.same s1).trans m3)
    rw [h]
    exact E3.seta (Rp.mv (.same s4) _ _ r3)
end PL

/-! PL17: tuple of a tuple, constants that are tuples, in of tuples. -/
namespace PL
open PySem PySem.Spec L2
open Enc (enc)
variable {Γ Γ' ρ τ α β σ' : Type} {X : Cx} {sl : Γ → Sl} {e a b c : Expr} {k : Kd} {pos p : Pos}
theorem pv_tupleT [Enc τ] [NoL τ] {fa : Γ → Option τ} (ds : τ → List PyData) (hd : ∀ t, enc t = .tuple (ds t)) (hg : Gl X "tuple") (hm : X.mg "tuple" = none) (ha : PV X sl .b a fa) (he : starEach [a] X.env = (false, eval a X.env) :: starEach [] X.env := by rfl) :
    PV X sl .a (.Call (.Name "tuple" p) [a] [] pos) (fun s => (fa s).bind fun x => some x) :=
  pv_c1 (fun h => pe_callTy call_tuple_of hg hm (by decide +kernel) (pa_cons h pa_nil he) (he := he)) (fun T H x u t Q hT r e q => by
    cases e
    have r2 : Rp X.K H T (enc u) x := Rb.rp r
    rw [hd u] at r
    obtain ⟨p, xs, rfl, h1, h2⟩ := rb_tup r
    exact ⟨p, xs, rfl, .inr ⟨h1, q _ H (Same.refl H) r2⟩⟩) ha
/-- a constant of the top that is a tuple of flat things -/
theorem pv_gtup [Enc τ] {x : Str} {ad : Addr} {xs : List V} (t : τ) (ds : List PyData) (hd : enc t = .tuple ds) (hr : ∀ H T, RpA X.K H T ds xs) (hg : Gl X x) (hm : X.mg x = some (.ref ad)) (hk : KTp X.K ad xs) (hb : (x == ("__debug__" : Str)) = false := by decide) : PV X sl .a (.Name x pos) (fun _ => some t) :=
  PE.imp (pe_glob hg hm (v := .ref ad) rfl hb) fun σ H Q ⟨g, S0, S, t', E, hf, q⟩ => by
    cases hf
    refine q _ H (Same.refl H) ?_
    show Rp X.K H _ (enc t) (.ref ad)
    rw [hd]
    exact ⟨ad, xs, rfl, .inr hk, hr H _⟩
class FlV (τ : Type) [Enc τ] [Sc τ] [DecidableEq τ] : Prop where
  fl : ∀ t : τ, flatV (Sc.val t) = true
  eq : ∀ s t : τ, eqV (Sc.val s) (Sc.val t) = decide (s = t)
instance : FlV Int := ⟨fun _ => rfl, fun s t => by show (s == t) = decide (s = t); exact Bool.beq_eq_decide_eq s t⟩
instance : FlV Tx := ⟨fun _ => rfl, fun s t => by
  show ((⟨s.cs.toArray⟩ : Str) == (⟨t.cs.toArray⟩ : Str)) = decide (s = t)
  rw [Bool.eq_iff_iff, beq_iff_eq, decide_eq_true_iff]
  constructor
  · intro e
    exact Sc.inj s t (congrArg V.str e)
  · intro e; rw [e]⟩
section
variable [Enc τ] [Sc τ] [DecidableEq τ] [FlV τ] [Enc σ']
theorem rpa_sc {K : PySem.W.Frag} {H : Hp} {T : Ad} : ∀ {t : List τ} {xs : List V}, RpA K H T (t.map enc) xs → xs = t.map Sc.val
  | [], xs, h => h
  | a :: t, xs, h => by
    obtain ⟨v, vs, rfl, h1, h2⟩ := h
    rw [List.map_cons, rpa_sc h2, Sc.rp (.inl h1)]
theorem inV_sc (x : τ) : ∀ t : List τ, inV (Sc.val x) (t.map Sc.val) = decide (x ∈ t)
  | [] => by simp [inV]
  | a :: t => by
    have := inV_sc x t
    unfold inV at this ⊢
    rw [List.map_cons, List.any_cons, this, FlV.eq]
    by_cases h : x = a
    · subst h; simp
    · simp [h, Ne.symm h]
theorem flat_sc (t : List τ) : (t.map Sc.val).all flatV = true := by
  rw [List.all_eq_true]
  intro v hv
  obtain ⟨x, _, rfl⟩ := List.mem_map.mp hv
  exact FlV.fl x
def c_inU (ds : σ' → List τ) (hd : ∀ t, enc t = .tuple ((ds t).map enc)) : Cmp X .In τ σ' (fun x y => some (decide (x ∈ ds y))) := ⟨_, op_in_seq, fun T H x y u w t Q hT r1 r2 e q => by
  cases e
  rw [hd w] at r2
  obtain ⟨p, xs, rfl, h1, h2⟩ := rb_tup r2
  rw [Sc.rp r1]
  rw [rpa_sc h2] at h1
  exact ⟨p, _, rfl, .inr h1, FlV.fl u, flat_sc _, q _ H (Same.refl H) (by rw [inV_sc]; rfl)⟩⟩
def c_ninU (ds : σ' → List τ) (hd : ∀ t, enc t = .tuple ((ds t).map enc)) : Cmp X .NotIn τ σ' (fun x y => some (!decide (x ∈ ds y))) := ⟨_, op_notIn_seq, fun T H x y u w t Q hT r1 r2 e q => by
  cases e
  rw [hd w] at r2
  obtain ⟨p, xs, rfl, h1, h2⟩ := rb_tup r2
  rw [Sc.rp r1]
  rw [rpa_sc h2] at h1
  exact ⟨p, _, rfl, .inr h1, FlV.fl u, flat_sc _, q _ H (Same.refl H) (by rw [inV_sc]; rfl)⟩⟩
end
def c_isB : Cmp X .Is Bool Bool (fun x y => some (decide (x = y))) := ⟨_, op_isBl, fun T H x y u w t Q hT r1 r2 e q => by
  cases e
  exact ⟨u, w, Sc.rp r1, Sc.rp r2, q _ H (Same.refl H) rfl⟩⟩
def c_isntB : Cmp X .IsNot Bool Bool (fun x y => some (!decide (x = y))) := ⟨_, op_notBl, fun T H x y u w t Q hT r1 r2 e q => by
  cases e
  exact ⟨u, w, Sc.rp r1, Sc.rp r2, q _ H (Same.refl H) rfl⟩⟩
end PL

/-! PL18: enumerate of a text and of a tuple; walks over tuples. -/
namespace PL
open PySem PySem.Spec L2 PyProof.Rows
open Enc (enc)
/-- the signs of a text, each in a new pair -/
def ItS (x : Str) : It :=
  ⟨fun i _ => i < x.cps.size, fun i H v H' => ∃ T c, v = .ref T ∧ H T = none ∧ H' = upd H T (.tup [.int (i : Nat), .str ⟨#[c]⟩]) ∧ x.cps[i]? = some c, fun i _ => x.cps.size ≤ i⟩
theorem turn_enumS {P : Program} {w : World} {K : PySem.W.Frag} {elts : List Expr} {kk : Nat} {tpos : Pos} (e it : Addr) (x : Str) (t : Tok) :
    Turn P w K (.Tuple elts kk tpos) (ItS x) [e, it] e (fun i h => (∃ old, IsEnum h e it ((i : Nat) : Int) old) ∧ h.IsStrIter it (strIterType x) x t i ∧ e ≠ it) where
  mem := by simp
  obj := fun i h st b hb => by
    obtain ⟨⟨old, he⟩, ⟨o, ho, hc, hd⟩, _⟩ := st
    have e' : b = e ∨ b = it := by simpa using hb
    rcases e' with z | z
    · rw [z]; exact ⟨_, he, fun v q => nomatch q⟩
    · rw [z]; exact ⟨o, ho, fun v q => by rw [hd] at q; cases q⟩
  keep := fun i h h' st k => by
    obtain ⟨⟨old, he⟩, ⟨o, ho, r⟩, hne⟩ := st
    exact ⟨⟨old, k e (by simp) _ he⟩, ⟨o, k it (by simp) o ho, r⟩, hne⟩
  item := by
    intro X hP hw hK hc i pins s σ H E I hf st hg
    subst hP hw hK
    obtain ⟨⟨old, he⟩, hit, hne⟩ := st
    have hel : e < s.heap.objs.size := Heap.lt_size he
    have hil : it < s.heap.objs.size := by obtain ⟨_, q, _⟩ := hit; exact Heap.lt_size q
    refine wpAny_pyNext_enum_itemD (Draws.text (A := X.A.in1) (I.ok.hd hc) it x t) he hit hg hne (by simp [hne]) fun u h' tk hu ho hit' hT hsz hk => ?_
    obtain ⟨c, t2, hc2, rfl⟩ := hu
    refine ⟨_, rfl, wpAny_letOwnedTupleGo_enum (s := { s with heap := h', toks := tk + 1 }) ho fun h'' he' sb => ?_⟩
    have hT2 : h''.get? s.heap.objs.size = some { cls := .type "tuple", data := .seq #[.int i tk, .str ⟨#[c]⟩ t2] } := (sb.2 _ (Nat.ne_of_gt hel)).trans hT
    have new : ObjOk X.prog X.w (upd H s.heap.objs.size (.tup [.int (i : Nat), .str ⟨#[c]⟩])) h'' s.heap.objs.size (.tup [.int (i : Nat), .str ⟨#[c]⟩]) :=
      ⟨by show 2 ≤ sizeLine; decide, [.int i tk, .str ⟨#[c]⟩ t2], .cons ⟨_, rfl⟩ (.cons ⟨_, rfl⟩ .nil), ⟨_, hT2, rfl, _, rfl⟩⟩
    have I1 : Inv X pins σ (upd H s.heap.objs.size (.tup [.int (i : Nat), .str ⟨#[c]⟩])) { s with heap := h'', toks := tk + 1 } :=
      I.turnedNew (ch := [e, it]) (fun b ob hb q => (sb.2 b (fun z => hb (by simp [z]))).trans (hk b ob (fun z => hb (by simp [z])) (fun z => hb (by simp [z])) q)) hf (Nat.le_refl _) new
    refine ⟨.ref s.heap.objs.size, _, I1, rfl, ⟨_, c, rfl, I.hok.fresh (Nat.le_refl _), rfl, hc2⟩, ⟨⟨.str ⟨#[c]⟩ t2, ?_⟩, ?_, hne⟩, fun b hb => ?_⟩
    · have e1 : ((i + 1 : Nat) : Int) = (i : Int) + 1 := by omega
      rw [e1]; exact he'
    · obtain ⟨o, ho2, r⟩ := hit'
      exact ⟨o, (sb.2 it (Ne.symm hne)).trans ho2, r⟩
    · have hb' : b < s.heap.objs.size := by
        have e' : b = e ∨ b = it := by simpa using hb
        rcases e' with z | z
        · rw [z]; exact hel
        · rw [z]; exact hil
      rw [upd_ne (Nat.ne_of_lt hb')]
      exact (hf b hb).1
  done := by
    intro X hP hw hK hc i pins s σ H E I hf st hg
    subst hP hw hK
    obtain ⟨⟨old, he⟩, hit, hne⟩ := st
    obtain ⟨f0, f1, f2, f3, f4, f5⟩ := hf it (by simp)
    have hx : x.cps[i]? = none := Array.getElem?_eq_none hg
    have D : Draws X.prog X.w X.A.in1 it [it] 0 (fun _ _ => True) (fun _ h => h.IsStrIter it (strIterType x) x t i) := {
      live := fun _ h st => let ⟨o, ho, _⟩ := st; ⟨o, ho⟩
      frame := fun _ h h' st k => let ⟨o, ho, r⟩ := st; ⟨o, k it (by simp) o ho, r⟩
      item := fun j s Q E hj => absurd hj (Nat.not_lt_zero _)
      done := fun s Q E st hE => by
        cases ha : x.cps.all (· < 128)
        · simp only [strIterType, ha, Bool.false_eq_true, if_false] at st
          exact wpAny_nextOf_wide_end (I.ok.hd hc) st hx hE
        · simp only [strIterType, ha, if_true] at st
          exact wpAny_nextOf_ascii_end (I.ok.hd hc) st hx hE }
    exact wpAny_pyNext_enum_endD D he hit fun h' eb => ⟨rfl, I.turned (t' := s.toks) (fun b o hb q => eb b o hb q) f0 f1 f3 f4 f5⟩
  self := fun A i s Q E st h => let ⟨⟨_, he⟩, _⟩ := st; wpAny_pyIter_enum he h
def iEnumS (ta : TA) : TI := fun σ H R => ta σ H fun vs H1 => ∃ x, vs = [.str x] ∧ R (ItS x) H1
theorem pi_enumS {X : Cx} {e : Expr} {ta : TA} {p pos tpos : Pos} {elts : List Expr} {kk : Nat} (hg : Gl X "enumerate") (hm : X.mg "enumerate" = none) (ha : PA X [e] ta) (hs : starEach [e] X.env = [(false, eval e X.env)] := by rfl) :
    PI X (.Tuple elts kk tpos) (.Call (.Name "enumerate" p) [e] [] pos) (iEnumS ta) := by
  refine ⟨fun pins s σ H R I h => ?_⟩
  refine Call_ (ld_blt I hg hm boot_enumerate (PyProof.Rows.callWith_type1 (thn (ha.run pos pins s σ H _ I h) fun us s1 ⟨vs, H1, I1, r1, q1⟩ => ?_) hs rfl))
  obtain ⟨x, ex, q⟩ := q1
  subst ex
  cases r1 with
  | cons r rr =>
    cases rr
    obtain ⟨t, rfl⟩ := r
    refine call_enumerate_str fun h' he hit hsz hk => wpAny_pyIter_enum he ?_
    have I2 : Inv X pins σ H1 { s1 with heap := h' } := I1.kept (t' := s1.toks) hk
    refine ⟨s1.heap.objs.size + 1, [s1.heap.objs.size + 1, s1.heap.objs.size], _, _, H1, rfl, I2, turn_enumS (s1.heap.objs.size + 1) s1.heap.objs.size x t, ⟨⟨.none, he⟩, hit, Nat.succ_ne_self _⟩, fun b hb => ?_, q⟩
    have e' : b = s1.heap.objs.size + 1 ∨ b = s1.heap.objs.size := by simpa using hb
    have hle : s1.heap.objs.size ≤ b := by
      rcases e' with z | z
      · rw [z]; exact Nat.le_add_right _ _
      · rw [z]; exact Nat.le_refl _
    exact I1.fpOk hle (I1.hok.fresh hle)
/-! a tuple -/
def ItT (K : PySem.W.Frag) (a : Addr) : It :=
  ⟨fun i H => ∃ (xs : List V) (x : V), SqT K H a xs ∧ xs[i]? = some x, fun i H v H' => ∃ T x, v = .ref T ∧ H T = none ∧ H' = upd H T (.tup [.int (i : Nat), x]) ∧ ∀ xs, SqT K H a xs → xs[i]? = some x, fun i H => ∃ xs : List V, SqT K H a xs ∧ xs.length ≤ i⟩
theorem turn_enumT {P : Program} {w : World} {K : PySem.W.Frag} {elts : List Expr} {kk : Nat} {tpos : Pos} (a e it : Addr) :
    Turn P w K (.Tuple elts kk tpos) (ItT K a) [e, it] e (fun i h => (∃ old, IsEnum h e it ((i : Nat) : Int) old) ∧ h.IsTupleIter it a i ∧ e ≠ it ∧ a ≠ it ∧ a ≠ e) where
  mem := by simp
  obj := fun i h st b hb => by
    obtain ⟨⟨old, he⟩, ⟨o, ho, hc, hd⟩, _⟩ := st
    have e' : b = e ∨ b = it := by simpa using hb
    rcases e' with z | z
    · rw [z]; exact ⟨_, he, fun v q => nomatch q⟩
    · rw [z]; exact ⟨o, ho, fun v q => by rw [hd] at q; cases q⟩
  keep := fun i h h' st k => let ⟨⟨old, he⟩, hi, hne⟩ := st; ⟨⟨old, k e (by simp) _ he⟩, hi.at fun o q => k it (by simp) o q, hne⟩
  item := by
    intro X hP hw hK hc i pins s σ H E I hf st hg
    subst hP hw hK
    obtain ⟨⟨old, he⟩, hit, hne, hai, hae⟩ := st
    obtain ⟨xs, x, hq, hx⟩ := hg
    obtain ⟨its, rv, p, hz⟩ := I.tuple hq
    obtain ⟨u, hu, ru⟩ := rv.get hx
    have hel : e < s.heap.objs.size := Heap.lt_size he
    have hil : it < s.heap.objs.size := by obtain ⟨_, q, _⟩ := hit; exact Heap.lt_size q
    have hlt : i < its.toArray.size := by
      have := (List.getElem?_eq_some_iff.mp hu).1
      simpa using this
    refine wpAny_pyNext_enum_itemD (Draws.tuple (A := X.A.in1) (I.ok.hd hc) it a hai its.toArray) he ⟨hit, p⟩ hlt hne (by simp [hne, Ne.symm hae]) fun u2 h' tk hu2 ho hit' hT hsz hk => ?_
    have e2 : u2 = u := by
      have : its[i]? = some u2 := by simpa using hu2
      rw [hu] at this
      exact (Option.some.inj this).symm
    subst e2
    refine ⟨_, rfl, wpAny_letOwnedTupleGo_enum (s := { s with heap := h', toks := tk + 1 }) ho fun h'' he' sb => ?_⟩
    have hT2 : h''.get? s.heap.objs.size = some { cls := .type "tuple", data := .seq #[.int i tk, u2] } := (sb.2 _ (Nat.ne_of_gt hel)).trans hT
    have new : ObjOk X.prog X.w (upd H s.heap.objs.size (.tup [.int (i : Nat), x])) h'' s.heap.objs.size (.tup [.int (i : Nat), x]) :=
      ⟨by show 2 ≤ sizeLine; decide, [.int i tk, u2], .cons ⟨_, rfl⟩ (.cons ru .nil), ⟨_, hT2, rfl, _, rfl⟩⟩
    have I1 : Inv X pins σ (upd H s.heap.objs.size (.tup [.int (i : Nat), x])) { s with heap := h'', toks := tk + 1 } :=
      I.turnedNew (ch := [e, it]) (fun b ob hb q => (sb.2 b (fun z => hb (by simp [z]))).trans (hk b ob (fun z => hb (by simp [z])) (fun z => hb (by simp [z])) q)) hf (Nat.le_refl _) new
    refine ⟨.ref s.heap.objs.size, _, I1, rfl, ⟨_, x, rfl, I.hok.fresh (Nat.le_refl _), rfl, fun ys hy => by rw [I.tuple_inj hy hq]; exact hx⟩, ⟨⟨u2, ?_⟩, hit'.1.at fun o q => (sb.2 it (Ne.symm hne)).trans q, hne, hai, hae⟩, fun b hb => ?_⟩
    · have e1 : ((i + 1 : Nat) : Int) = (i : Int) + 1 := by omega
      rw [e1]; exact he'
    · have hb' : b < s.heap.objs.size := by
        have e' : b = e ∨ b = it := by simpa using hb
        rcases e' with z | z
        · rw [z]; exact hel
        · rw [z]; exact hil
      rw [upd_ne (Nat.ne_of_lt hb')]
      exact (hf b hb).1
  done := by
    intro X hP hw hK hc i pins s σ H E I hf st hg
    subst hP hw hK
    obtain ⟨⟨old, he⟩, hit, hne, hai, hae⟩ := st
    obtain ⟨xs, hq, hx⟩ := hg
    obtain ⟨its, rv, p, hz⟩ := I.tuple hq
    obtain ⟨f0, f1, f2, f3, f4, f5⟩ := hf it (by simp)
    have hl := rv.length
    have D : Draws X.prog X.w X.A.in1 it [it, a] 0 (fun _ _ => True) (fun _ h => h.IsTupleIter it a i ∧ h.IsTuple a its.toArray) := {
      live := fun _ h st => let ⟨o, ho, _⟩ := st.1; ⟨o, ho⟩
      frame := fun _ h h' st k => ⟨st.1.at fun o q => k it (by simp) o q, st.2.at fun o q => k a (by simp) o q⟩
      item := fun j s Q E hj => absurd hj (Nat.not_lt_zero _)
      done := fun s Q E st hE => wpAny_nextOf_tuple_end (I.ok.hd hc) st.1 st.2 (by simp; omega) hE }
    exact wpAny_pyNext_enum_endD D he ⟨hit, p⟩ fun h' eb => ⟨rfl, I.turned (t' := s.toks) (fun b o hb q => eb b o hb q) f0 f1 f3 f4 f5⟩
  self := fun A i s Q E st h => let ⟨⟨_, he⟩, _⟩ := st; wpAny_pyIter_enum he h
theorem meets_enumerate_newT (l : Addr) (items : Array Value) (n : Nat) (dct : Option Addr) (sl : Array (Option Value)) :
    Meets (Builtin.«enumerate.__new__» ⟨[.type "enumerate", .ref l], []⟩) (fun _ R s => s.heap.get? l = some { cls := .type "tuple", dict := dct, data := .seq items n, slots := sl } ∧
      R (.ok (.ret (.ref (s.heap.push { cls := .type "tuple_iterator", data := .fields #[.ref l, .int 0 0] }).objs.size)))
        { s with heap := (s.heap.push { cls := .type "tuple_iterator", data := .fields #[.ref l, .int 0 0] }).push { cls := .type "enumerate", data := .fields #[.none, .bool false, .ref s.heap.objs.size, rawInt 0, .none, .none] } }) :=
  .of_wp fun prog w A R s h => by
    obtain ⟨hp, g, d, tk, os⟩ := s; obtain ⟨hl, h⟩ := h
    have hsub := sub_enumerate
    have hL : Heap.IsTuple (Shared.heap ⟨hp, g, d, tk, os⟩) l items := ⟨_, hl, rfl, n, rfl⟩
    wp_walk using AutoSeq1.wpAny_loadPart' hl
    refine wpAny_stack_any fun st => wpAny_pure ?_
    split
    · rename_i c _ _ _ _ _
      cases (c == Value.type "enumerate")
      · wp_walk using AutoSeq1.wpAny_loadPart' hl, wpAny_pyIter_tuple hL
        exact ⟨_, rfl, h⟩
      · wp_walk using AutoSeq1.wpAny_loadPart' hl, wpAny_pyIter_tuple hL
        exact ⟨_, rfl, h⟩
    · wp_walk using AutoSeq1.wpAny_loadPart' hl, wpAny_pyIter_tuple hL
      exact ⟨_, rfl, h⟩
theorem call_enumerate_tuple {prog : Program} {w : World} {A : Around} {E : Value → Shared → Prop} {s : Shared} {l : Addr} {items : Array Value} {Q : Value → Shared → Prop} (hL : s.heap.IsTuple l items)
    (h : ∀ h', IsEnum h' (s.heap.objs.size + 1) s.heap.objs.size 0 .none → h'.IsTupleIter s.heap.objs.size l 0 → h'.objs.size = s.heap.objs.size + 2 →
      (∀ b o, s.heap.get? b = some o → h'.get? b = some o) → Q (.ref (s.heap.objs.size + 1)) { s with heap := h' }) :
    wpAny (model prog w) A (call (.type "enumerate") [.ref l]) Q E s := by
  obtain ⟨⟨c, dct, dt, sl⟩, hl, hc, n, hd⟩ := hL
  replace hc : c = .type "tuple" := hc
  replace hd : dt = .seq items n := hd
  subst hc hd
  refine callType_new F.called_enumerate (by decide) (F.typeCall_enumerate_1 _) (F.newCall_enumerate_1 _) (fun obj => F.args_object_init_2 obj _) F.entry_enumerate_new
    (meets_enumerate_newT l items n dct sl) ⟨hl, ?_⟩
  have hz : (s.heap.push { cls := .type "tuple_iterator", data := .fields #[.ref l, .int 0 0] }).objs.size = s.heap.objs.size + 1 := Heap.size_push ..
  show _ ∧ _
  rw [hz]
  have he : IsEnum ((s.heap.push { cls := .type "tuple_iterator", data := .fields #[.ref l, .int 0 0] }).push
      { cls := .type "enumerate", data := .fields #[.none, .bool false, .ref s.heap.objs.size, rawInt 0, .none, .none] }) (s.heap.objs.size + 1) s.heap.objs.size 0 .none := by
    have := Heap.get?_push_size (s.heap.push { cls := .type "tuple_iterator", data := .fields #[.ref l, .int 0 0] })
      (o := { cls := .type "enumerate", data := .fields #[.none, .bool false, .ref s.heap.objs.size, rawInt 0, .none, .none] }) rfl
    rw [hz] at this; exact this
  refine ⟨⟨_, he, rfl⟩, h _ he ⟨_, Heap.get?_push_of_some _ (Heap.get?_push_size _ rfl), rfl, rfl⟩ (by rw [Heap.size_push, hz]) fun b o x => Heap.get?_push_of_some _ (Heap.get?_push_of_some _ x)⟩
def iEnumT (K : PySem.W.Frag) (ta : TA) : TI := fun σ H R => ta σ H fun vs H1 => ∃ a xs, vs = [.ref a] ∧ SqT K H1 a xs ∧ R (ItT K a) H1
theorem pi_enumT {X : Cx} {e : Expr} {ta : TA} {p pos tpos : Pos} {elts : List Expr} {kk : Nat} (hg : Gl X "enumerate") (hm : X.mg "enumerate" = none) (ha : PA X [e] ta) (hs : starEach [e] X.env = [(false, eval e X.env)] := by rfl) :
    PI X (.Tuple elts kk tpos) (.Call (.Name "enumerate" p) [e] [] pos) (iEnumT X.K ta) := by
  refine ⟨fun pins s σ H R I h => ?_⟩
  refine Call_ (ld_blt I hg hm boot_enumerate (PyProof.Rows.callWith_type1 (thn (ha.run pos pins s σ H _ I h) fun us s1 ⟨vs, H1, I1, r1, q1⟩ => ?_) hs rfl))
  obtain ⟨a, xs, ex, hq, q⟩ := q1
  subst ex
  cases r1 with
  | cons r rr =>
    cases rr
    cases r
    obtain ⟨its, rv, p', hz⟩ := I1.tuple hq
    have hla : a < s1.heap.objs.size := by obtain ⟨o, q, _⟩ := p'; exact Heap.lt_size q
    refine call_enumerate_tuple p' fun h' he hit hsz hk => wpAny_pyIter_enum he ?_
    have I2 : Inv X pins σ H1 { s1 with heap := h' } := I1.kept (t' := s1.toks) hk
    refine ⟨s1.heap.objs.size + 1, [s1.heap.objs.size + 1, s1.heap.objs.size], _, _, H1, rfl, I2, turn_enumT a (s1.heap.objs.size + 1) s1.heap.objs.size, ⟨⟨.none, he⟩, hit, Nat.succ_ne_self _, Nat.ne_of_lt hla, Nat.ne_of_lt (Nat.lt_succ_of_lt hla)⟩, fun b hb => ?_, q⟩
    have e' : b = s1.heap.objs.size + 1 ∨ b = s1.heap.objs.size := by simpa using hb
    have hle : s1.heap.objs.size ≤ b := by
      rcases e' with z | z
      · rw [z]; exact Nat.le_add_right _ _
      · rw [z]; exact Nat.le_refl _
    exact I1.fpOk hle (I1.hok.fresh hle)
variable {Γ Γ' ρ τ α β σ' ι : Type} {X : Cx} {sl : Γ → Sl} {e a b c : Expr} {k : Kd} {pos p : Pos}
theorem piv_enumS {elts : List Expr} {kk : Nat} {p tpos : Pos} {f : Γ → Option Tx} (hg : Gl X "enumerate") (hm : X.mg "enumerate" = none) (ha : PV X sl .b a f) (hs : starEach [a] X.env = [(false, eval a X.env)] := by rfl) :
    IV X sl .a (.Tuple elts kk tpos) (.Call (.Name "enumerate" p) [a] [] pos) (fun s => (f s).bind fun x => some (x.cs.zipIdx.map fun q => T2.mk (q.2 : Int) (⟨[q.1]⟩ : Tx))) :=
  PI.imp (pi_enumS hg hm (pa_cons ha pa_nil hs) hs) fun σ H R ⟨g, S0, S, xs, E, hf, q⟩ => by
    obtain ⟨t, e1, e2⟩ := bind1 hf
    cases e2
    refine ⟨g, S0, S, t, E, e1, fun v H1 s1 r1 => ?_⟩
    refine ⟨_, by rw [rb_t r1], q _ H1 s1 fun S2 H2 m s d => ?_⟩
    refine ⟨fun i hi => by show Array.size _ ≤ i; simpa using hi, fun i x hx => ?_⟩
    rw [List.getElem?_map, List.getElem?_zipIdx] at hx
    cases hc : t.cs[i]? with
    | none => rw [hc] at hx; cases hx
    | some c =>
      rw [hc] at hx
      cases hx
      obtain ⟨hl, _⟩ := List.getElem?_eq_some_iff.mp hc
      refine ⟨by show i < Array.size _; simpa using hl, fun v H3 hy => ?_⟩
      obtain ⟨T, c', rfl, hT, rfl, hc'⟩ := hy
      have e3 : t.cs[i]? = some c' := by simpa using hc'
      rw [hc] at e3
      cases e3
      refine ⟨same_new hT, rp_newT d hT ⟨_, _, rfl, ?_, .one rfl⟩⟩
      simp
      rfl
theorem piv_enumT [Enc τ] [Enc ι] {elts : List Expr} {kk : Nat} {p tpos : Pos} {f : Γ → Option τ} (ds : τ → List ι) (hd : ∀ t, enc t = .tuple ((ds t).map enc)) [NoL τ] (hg : Gl X "enumerate") (hm : X.mg "enumerate" = none) (ha : PV X sl .b a f) (hs : starEach [a] X.env = [(false, eval a X.env)] := by rfl) :
    IV X sl .a (.Tuple elts kk tpos) (.Call (.Name "enumerate" p) [a] [] pos) (fun s => (f s).bind fun x => some ((ds x).zipIdx.map fun q => T2.mk (q.2 : Int) q.1)) :=
  PI.imp (pi_enumT hg hm (pa_cons ha pa_nil hs) hs) fun σ H R ⟨g, S0, S, xs, E, hf, q⟩ => by
    obtain ⟨l, e1, e2⟩ := bind1 hf
    cases e2
    refine ⟨g, S0, S, l, E, e1, fun v H1 s1 r1 => ?_⟩
    have r1' : Rp X.K H1 (un S S0) (enc l) v := Rb.rp r1
    rw [hd] at r1'
    obtain ⟨a, vs, rfl, h1, h2⟩ := r1'
    refine ⟨a, vs, rfl, h1.sq, q _ H1 s1 fun S2 H2 m s d => ?_⟩
    have h3 := (h1.mv m.un).sq
    have r2 : RpA X.K H2 (un S2 S0) ((ds l).map enc) vs := RpA.mv m.un _ _ h2
    refine ⟨fun i hi => ⟨vs, h3, by rw [map_len r2]; simpa using hi⟩, fun i x hx => ?_⟩
    obtain ⟨y, hy, rfl⟩ : ∃ y, (ds l)[i]? = some y ∧ x = T2.mk (i : Int) y := by
      rw [List.getElem?_map, List.getElem?_zipIdx] at hx
      cases h : (ds l)[i]? with
      | none => rw [h] at hx; cases hx
      | some y => rw [h] at hx; cases hx; exact ⟨y, rfl, by simp⟩
    obtain ⟨v, g1, g2⟩ := map_get r2 hy
    refine ⟨⟨vs, v, h3, g1⟩, fun w H3 hy => ?_⟩
    obtain ⟨T, z, rfl, hT, rfl, hz⟩ := hy
    have e3 := hz vs h3
    rw [g1] at e3
    cases e3
    exact ⟨same_new hT, rp_newT d hT ⟨_, _, rfl, rfl, .one g2⟩⟩
theorem piv_tup [Enc τ] [Enc ι] {tg : Expr} {f : Γ → Option τ} (ds : τ → List ι) (hd : ∀ t, enc t = .tuple ((ds t).map enc)) [NoL τ] (h : PV X sl .b e f) : IV X sl .a tg e (fun s => (f s).bind fun x => some (ds x)) := PI.imp (pi_tup h) fun σ H R ⟨g, S0, S, xs, E, hf, q⟩ => by
  obtain ⟨l, e1, e2⟩ := bind1 hf
  cases e2
  refine ⟨g, S0, S, l, E, e1, fun v H1 s1 r1 => ?_⟩
  have r1' : Rp X.K H1 (un S S0) (enc l) v := Rb.rp r1
  rw [hd] at r1'
  obtain ⟨a, vs, rfl, h1, h2⟩ := r1'
  refine ⟨a, rfl, ⟨vs, h1.sq⟩, q _ H1 s1 fun S2 H2 m s d => ?_⟩
  have h3 := (h1.mv m.un).sq
  have r2 : RpA X.K H2 (un S2 S0) ((ds l).map enc) vs := RpA.mv m.un _ _ h2
  refine ⟨fun i hi => ⟨vs, h3, by rw [map_len r2]; exact hi⟩, fun i x hx => ?_⟩
  obtain ⟨v, g1, g2⟩ := map_get r2 hx
  refine ⟨⟨vs, v, h3, g1⟩, fun w H3 hy => ?_⟩
  obtain ⟨rfl, hz⟩ := hy
  have e3 := hz vs h3
  rw [g1] at e3
  cases e3
  exact ⟨Same.refl _, g2⟩
end PL

/-! PL19: lists taken apart, reversed texts, [x] * n, divmod, sorted pairs. -/
namespace PL
open PySem PySem.Spec L2 PyProof.Rows
open Enc (enc)
/-! ### a, b = xs -/
structure LU2 (τ : Type) where
  mk ::
  a : τ
  b : τ
structure LU3 (τ : Type) where
  mk ::
  a : τ
  b : τ
  c : τ
instance {τ : Type} [Enc τ] : Enc (LU2 τ) := ⟨fun t => .list [enc t.a, enc t.b]⟩
instance {τ : Type} [Enc τ] : Enc (LU3 τ) := ⟨fun t => .list [enc t.a, enc t.b, enc t.c]⟩
def toLU2 {τ : Type} : List τ → Option (LU2 τ)
  | [a, b] => some ⟨a, b⟩
  | _ => none
def toLU3 {τ : Type} : List τ → Option (LU3 τ)
  | [a, b, c] => some ⟨a, b, c⟩
  | _ => none
section
variable {Γ Γ' Γb ρ τ α β σ' ι : Type} {X : Cx} {sl : Γ → Sl} {slb : Γb → Sl} {e a b c : Expr} {k : Kd} {pos p : Pos}
theorem pv_lu2 [Enc τ] {f : Γ → Option (List τ)} (h : PV X sl k e f) : PV X sl k e (fun s => (f s).bind fun x => toLU2 x) := PE.imp h fun σ H Q ⟨g, S0, S, t, E, hf, q⟩ => by
  obtain ⟨u, h1, hf⟩ := bind1 hf
  refine ⟨g, S0, S, u, E, h1, fun v H' s r => q v H' s ?_⟩
  have : enc u = enc t := by
    unfold toLU2 at hf
    split at hf
    · cases hf; rfl
    · cases hf
  rw [← this]
  exact r
theorem pv_lu3 [Enc τ] {f : Γ → Option (List τ)} (h : PV X sl k e f) : PV X sl k e (fun s => (f s).bind fun x => toLU3 x) := PE.imp h fun σ H Q ⟨g, S0, S, t, E, hf, q⟩ => by
  obtain ⟨u, h1, hf⟩ := bind1 hf
  refine ⟨g, S0, S, u, E, h1, fun v H' s r => q v H' s ?_⟩
  have : enc u = enc t := by
    unfold toLU3 at hf
    split at hf
    · cases hf; rfl
    · cases hf
  rw [← this]
  exact r
theorem gv_lst [Enc ι] {es : List Expr} {kk n : Nat} {set : Γ → ι → Γb} {js : List Nat} (ds : ι → List PyData) (hd : ∀ x, enc x = .list (ds x)) (hl : ∀ x, (ds x).length = n) (h : PGs X es (tGs X.K sl slb ds set js)) (hc : X.calm = true := by rfl)
    (hn : (assignEach es X.env).length = n := by rfl) (hst : (assignEach es X.env).findIdx? (·.1) = none := by rfl) : GV X sl slb (.Tuple es kk pos) set js := PG.imp (pg_lst hc h hn hst) fun v σ H Q ⟨g, S0, S, x, E, r, q⟩ => by
  rw [hd] at r
  obtain ⟨a, xs, rfl, h1, h2⟩ := r
  exact ⟨a, xs, rfl, h1.sq, by rw [h2.length, hl], g, S0, S, x, E, h2, q⟩
end
/-! ### t[::-1] of a text -/
def tRevT (te : TE) : TE := fun σ H Q => te σ H fun x H1 => ∃ z : Str, x = .str z ∧ z.length ≤ sizeLine ∧ Q (.str ⟨z.cps.toList.reverse.toArray⟩) H1
theorem rev_pick (l : List Nat) : ((List.range l.length).map fun k => l.length - 1 - k).filterMap (l.toArray[·]?) = l.reverse := by
  have h := PyProof.Rows.filterMap_get l.toArray ((List.range l.length).map fun k => l.length - 1 - k) (by
    intro i hi
    obtain ⟨k, hk, rfl⟩ := List.mem_map.mp hi
    have := List.mem_range.mp hk
    simp
    omega)
  rw [h, List.map_map]
  apply List.ext_getElem
  · simp
  · intro i h1 h2
    simp only [List.length_map, List.length_range] at h1
    have h3 : l.length - 1 - i < l.length := by omega
    simp [h3]
theorem pe_revT {X : Cx} {e : Expr} {te : TE} {k : Nat} {p1 p2 p3 pos : Pos} (he : PE X e te) : PE X (.Subscript e (.Slice none none (some (.UnaryOp .USub (.Constant (.int 1) k p1) p2)) p3) pos) (tRevT te) := by
  refine ⟨fun pins s σ H Q I h => ?_⟩
  refine Subscript_ (thn (he.run pins s σ H _ I h) fun v s1 ⟨x, H1, I1, r1, q1⟩ => ?_)
  obtain ⟨z, ex, hz, q⟩ := q1
  subst ex
  obtain ⟨t, rfl⟩ := r1
  have hst : PO X (some (.UnaryOp .USub (.Constant (.int 1) k p1) p2)) (tPart (tUn (rU fun i => .int (-i)) (tC (.int 1)))) := po_some (pe_un un_neg pe_int)
  refine wpAny_Slice (thn (po_none.run pins s1 σ H1 (fun o H2 => o = none ∧ H2 = H1) I1 ⟨rfl, rfl⟩) fun vl s2 ⟨l, H2, I2, pl, el, e2⟩ => ?_)
  subst el e2
  refine thn (po_none.run pins s2 σ H2 (fun o H3 => o = none ∧ H3 = H2) I2 ⟨rfl, rfl⟩) fun vu s3 ⟨u, H3, I3, pu, eu, e3⟩ => ?_
  subst eu e3
  refine thn (hst.run pins s3 σ H3 (fun o H4 => o = some (-1) ∧ H4 = H3) I3 ⟨1, rfl, -1, rfl, rfl, rfl⟩) fun vs s4 ⟨o, H4, I4, ps, eo, e4⟩ => ?_
  subst eo e4
  have I5 : Inv X pins σ H4 { s4 with heap := s4.heap.push { cls := .type "slice", data := .fields #[vl, vu, vs] } } := I4.kept (t' := s4.toks) fun b ob q => Heap.get?_push_of_some _ q
  show wpAny (model X.prog X.w) X.A (subscriptTail e (.Slice none none (some (.UnaryOp .USub (.Constant (.int 1) k p1) p2)) p3) (.str z t) (.ref s4.heap.objs.size)) (EP X pins σ Q) X.xe { s4 with heap := s4.heap.push { cls := .type "slice", data := .fields #[vl, vu, vs] } }
  obtain ⟨l, rfl, hl⟩ := IsPart.raw pl
  obtain ⟨u, rfl, hu⟩ := IsPart.raw pu
  obtain ⟨st, rfl, hs⟩ := IsPart.raw ps
  refine tail_any (ops := [.str z t, .ref s4.heap.objs.size]) (typeIs_str _ _ _) (F.slot_str_getitem.lookup) ?_ (by with_unfolding_all rfl)
  refine wpAny_getItem_str_slice (l := l) (u := u) (st := st) ⟨_, Heap.get?_push_size _ rfl, rfl, rfl⟩ (by rw [hs]; rfl) ?_
  have hpick : ((Builtin.Str.strSliceIndices none none (-1) z.length).filterMap (z.cps[·]?)) = z.cps.toList.reverse := by
    rw [PyProof.Rows.picked_rev]
    have := rev_pick z.cps.toList
    have hzl : z.length = z.cps.size := rfl
    rw [hzl]
    simpa using this
  have e1 : sliceMade z t l u st = Made.str ⟨z.cps.toList.reverse.toArray⟩ := by
    rw [← hpick]
    unfold sliceMade slicePicked
    rw [hl, hu, hs]
    rfl
  rw [e1]
  exact ⟨by show (List.toArray _).size ≤ sizeLine; have hz2 : z.cps.size ≤ sizeLine := hz; simpa using hz2, .str _, H4, I5.tok _, ⟨_, rfl⟩, q⟩
section
variable {Γ Γ' Γb ρ τ α β σ' ι : Type} {X : Cx} {sl : Γ → Sl} {slb : Γb → Sl} {e a b c : Expr} {k : Kd} {pos p : Pos}
def tRev (x : Tx) : Option Tx := if x.cs.length ≤ sizeLine then some ⟨x.cs.reverse⟩ else none
theorem pv_revS {fa : Γ → Option Tx} {k0 : Nat} {p1 p2 p3 : Pos} (ha : PV X sl .b a fa) : PV X sl .a (.Subscript a (.Slice none none (some (.UnaryOp .USub (.Constant (.int 1) k0 p1) p2)) p3) pos) (fun s => (fa s).bind fun x => tRev x) :=
  PE.imp (pe_revT ha) fun σ H Q ⟨γ, S0, S, t, E, hf, q⟩ => by
    obtain ⟨u, h1, h2⟩ := bind1 hf
    obtain ⟨hz, rfl⟩ := if_some h2
    refine ⟨γ, S0, S, u, E, h1, fun v H1 s1 r1 => ⟨_, rb_t r1, by show Array.size _ ≤ _; simpa using hz, q _ H1 s1 ?_⟩⟩
    show V.str _ = V.str _
    simp
/-! ### xs * n -/
def lRep (x : List τ) (n : Int) : Option (List τ) := if -(2 ^ 62) ≤ n ∧ n < 2 ^ 62 ∧ x.length * n.toNat ≤ sizeLine then some (List.replicate n.toNat x).flatten else none
theorem rpa_rep {K : PySem.W.Frag} {H : Hp} {T : Ad} {ds : List PyData} {xs : List V} (h : RpA K H T ds xs) : ∀ n, RpA K H T (List.replicate n ds).flatten (List.replicate n xs).flatten
  | 0 => rfl
  | n + 1 => by
    rw [List.replicate_succ, List.replicate_succ, List.flatten_cons, List.flatten_cons]
    exact h.append (rpa_rep h n)
theorem pv_rep [Enc τ] {fa : Γ → Option (List τ)} {fb : Γ → Option Int} (ha : PV X sl .f a fa) (hb : PV X sl .b b fb) : PV X sl .f (.BinOp a .Mult b pos) (fun s => (fa s).bind fun x => (fb s).bind fun y => lRep x y) :=
  PE.imp (pe_op op_rep ha hb) fun σ H Q ⟨γ, S0, S, t, E, hf, q⟩ => by
    obtain ⟨u, w, h1, h2, h3⟩ := bind2 hf
    obtain ⟨⟨hz1, hz2, hz3⟩, rfl⟩ := if_some h3
    refine ⟨γ, S0, S, u, E, h1, fun x H1 s1 r1 => ⟨γ, S0, S, w, E.same s1, h2, fun y H2 s2 r2 => ?_⟩⟩
    obtain ⟨l, rfl, hl, ⟨ds, xs, ed, h4, h5⟩ | ⟨kv, es, ed, _⟩⟩ := r1
    · have ed : ds = u.map enc := by cases ed; rfl
      subst ed
      have hlen := map_len h5
      refine ⟨l, w, xs, rfl, rb_i r2, s2 _ _ h4, by omega, by omega, by rw [hlen]; exact hz3, fun p hp => ?_⟩
      have s12 := s1.trans s2
      refine q _ _ (s12.trans (same_new hp)) ⟨p, rfl, ?_, .inl ⟨_, _, rfl, upd_same, ?_⟩⟩
      · cases e : H p with
        | none => rfl
        | some o => rw [s12 p o e] at hp; cases hp
      · have h6 : RpA X.K H2 (wi (un S S0) l) (u.map enc) xs := RpA.mv (.same s2) _ _ h5
        have h7 := rpa_rep h6 w.toNat
        rw [show (List.replicate w.toNat (u.map enc)).flatten = (List.replicate w.toNat u).flatten.map enc by
          rw [List.map_flatten, List.map_replicate]] at h7
        have h8 : RpA X.K H2 (un S S0) ((List.replicate w.toNat u).flatten.map enc) (List.replicate w.toNat xs).flatten := h7.mv (.less fun a z => .inl z)
        refine h8.mv fun a o e n => ?_
        have ne := ne_of_none e hp
        exact ⟨by rw [upd_ne ne]; exact e, fun z => z.elim n ne⟩
    · cases ed
/-! ### divmod -/
def iDivmod (x y : Int) : Option (T2 Int Int) := if 0 < y ∧ y < 1073741824 then some ⟨x / y, x % y⟩ else none
theorem pv_divmod {fa fb : Γ → Option Int} (hg : Gl X "divmod") (hm : X.mg "divmod" = none) (ha : PV X sl .b a fa) (hb : PV X sl .b b fb) (he : starEach [a, b] X.env = (false, eval a X.env) :: starEach [b] X.env := by rfl) (he2 : starEach [b] X.env = (false, eval b X.env) :: starEach [] X.env := by rfl) (hpl : (backTo pos (starEach [b] X.env)).any (·.1) = false := by rfl) :
    PV X sl .a (.Call (.Name "divmod" p) [a, b] [] pos) (fun s => (fa s).bind fun x => (fb s).bind fun y => iDivmod x y) :=
  pv_c2 (fun h1 h2 => pe_callB call_divmod hg hm (by decide +kernel) (pa_cons h1 (pa_cons h2 pa_nil he2) he) (he := he) (hpl := hpl)) (fun T H x y u w t Q hT r1 r2 e q => by
    obtain ⟨hz, rfl⟩ := if_some e
    refine ⟨u, w, by rw [rb_i r1, rb_i r2], hz, fun p hp => ?_⟩
    exact q _ _ (same_new hp) (rp_newT hT hp ⟨_, _, rfl, rfl, .one rfl⟩)) ha hb
/-! ### sorted pairs of numbers -/
def leP (p q : T2 Int Int) : Bool := decide (p.a < q.a) || (decide (p.a = q.a) && decide (p.b ≤ q.b))
def okP (p : T2 Int Int) : Bool := decide (0 ≤ p.a) && decide (p.a < 1000000000000000000) && decide (0 ≤ p.b) && decide (p.b < 1000000000000000000)
def srtP (x : List (T2 Int Int)) : Option (List (T2 Int Int)) := if x.length < 64 ∧ x.all okP = true then some (x.mergeSort leP) else none
theorem rpa_perm {K : PySem.W.Frag} {H : Hp} {T : Ad} {xs ys : List V} (p : ys.Perm xs) : ∀ {ds : List PyData}, RpA K H T ds xs → ∃ es, es.Perm ds ∧ RpA K H T es ys := by
  induction p with
  | nil => intro ds h; exact ⟨ds, .refl _, h⟩
  | cons x _ ih =>
    intro ds h
    cases ds with
    | nil => have e : _ :: _ = [] := h; cases e
    | cons d ds =>
      obtain ⟨v, vs, e, h1, h2⟩ := h
      cases e
      obtain ⟨es, p1, p2⟩ := ih h2
      exact ⟨d :: es, p1.cons d, _, _, rfl, h1, p2⟩
  | swap x y l =>
    intro ds h
    cases ds with
    | nil => have e : _ :: _ = [] := h; cases e
    | cons d ds =>
      obtain ⟨v, vs, e, h1, h2⟩ := h
      cases e
      cases ds with
      | nil => have e : _ :: _ = [] := h2; cases e
      | cons d2 ds =>
        obtain ⟨v2, vs2, e2, h3, h4⟩ := h2
        cases e2
        exact ⟨d2 :: d :: ds, .swap .., _, _, rfl, h3, _, _, rfl, h1, h4⟩
  | trans p1 p2 ih1 ih2 =>
    intro ds h
    obtain ⟨es, q1, q2⟩ := ih2 h
    obtain ⟨es2, q3, q4⟩ := ih1 q2
    exact ⟨es2, q3.trans q1, q4⟩
theorem perm_map {α β : Type} {f : α → β} {es : List β} {u : List α} (p : es.Perm (u.map f)) : ∃ t' : List α, es = t'.map f ∧ t'.Perm u := by
  generalize hm : u.map f = m at p
  induction p generalizing u with
  | nil =>
    have : u = [] := by cases u with | nil => rfl | cons => cases hm
    subst this
    exact ⟨[], rfl, .refl _⟩
  | cons x _ ih =>
    cases u with
    | nil => cases hm
    | cons a u =>
      cases hm
      obtain ⟨t', e, p'⟩ := ih rfl
      exact ⟨a :: t', by rw [List.map_cons, ← e], p'.cons a⟩
  | swap x y l =>
    cases u with
    | nil => cases hm
    | cons a u =>
      cases u with
      | nil => cases hm
      | cons b u =>
        cases hm
        exact ⟨b :: a :: u, rfl, .swap ..⟩
  | trans p1 p2 ih1 ih2 =>
    obtain ⟨t', e, q⟩ := ih2 hm
    obtain ⟨t2, e2, q2⟩ := ih1 e.symm
    exact ⟨t2, e2, q2.trans q⟩
theorem leP_code {p q : T2 Int Int} (hp : okP p = true) (hq : okP q = true) : leP p q = true ↔ TS.code 1000000000000000000 [p.a, p.b] ≤ TS.code 1000000000000000000 [q.a, q.b] := by
  unfold okP at hp hq
  simp only [Bool.and_eq_true, decide_eq_true_eq] at hp hq
  unfold leP
  simp only [Bool.or_eq_true, Bool.and_eq_true, decide_eq_true_eq]
  show _ ↔ p.a * 1000000000000000000 ^ 1 + (p.b * 1000000000000000000 ^ 0 + 0) ≤ q.a * 1000000000000000000 ^ 1 + (q.b * 1000000000000000000 ^ 0 + 0)
  rw [Int.pow_succ, Int.pow_zero]
  omega
theorem T2.ext' {p q : T2 Int Int} (h1 : p.a = q.a) (h2 : p.b = q.b) : p = q := by cases p; cases q; cases h1; cases h2; rfl
theorem srtP_uniq {xs ys : List (T2 Int Int)} (hp : ys.Perm xs) (hs : ys.Pairwise (fun a b => leP a b = true)) : ys = xs.mergeSort leP := by
  have p2 : (xs.mergeSort leP).Perm xs := List.mergeSort_perm _ _
  have s2 : (xs.mergeSort leP).Pairwise (fun a b => leP a b = true) := List.pairwise_mergeSort (by
    intro a b c h1 h2
    unfold leP at *
    simp only [Bool.or_eq_true, Bool.and_eq_true, decide_eq_true_eq] at *
    omega) (by
    intro a b
    unfold leP
    simp only [Bool.or_eq_true, Bool.and_eq_true, decide_eq_true_eq]
    omega) xs
  exact (hp.trans p2.symm).eq_of_pairwise (fun a b _ _ h1 h2 => by
    unfold leP at h1 h2
    simp only [Bool.or_eq_true, Bool.and_eq_true, decide_eq_true_eq] at h1 h2
    exact T2.ext' (by omega) (by omega)) hs s2
theorem tupI_of {K : PySem.W.Frag} {H : Hp} {T : Ad} {t : T2 Int Int} {v : V} (h : Rp K H T (enc t) v) : TupI K H v [t.a, t.b] := by
  obtain ⟨a, xs, rfl, h1, h2⟩ := h
  obtain ⟨v, vs, rfl, h3, h4⟩ := h2
  obtain ⟨v2, vs2, rfl, h5, h6⟩ := h4
  have e6 : vs2 = [] := h6
  subst e6
  have e3 : v = .int t.a := h3
  have e5 : v2 = .int t.b := h5
  subst e3 e5
  exact ⟨a, rfl, h1.sq⟩
theorem pairw_rp {K : PySem.W.Frag} {H : Hp} {T : Ad} : ∀ {t : List (T2 Int Int)} {vs : List V}, RpA K H T (t.map enc) vs → (∀ x ∈ t, okP x = true) →
    vs.Pairwise (fun x y => ∀ n m, TupI K H x n → TupI K H y m → TS.code 1000000000000000000 n ≤ TS.code 1000000000000000000 m) → t.Pairwise (fun a b => leP a b = true)
  | [], vs, h, ho, hp => .nil
  | a :: t, vs, h, ho, hp => by
    obtain ⟨v, ws, rfl, h1, h2⟩ := h
    rw [List.pairwise_cons] at hp
    refine .cons (fun b hb => ?_) (pairw_rp h2 (fun x hx => ho x (List.mem_cons_of_mem _ hx)) hp.2)
    obtain ⟨i, hi⟩ := List.getElem?_of_mem hb
    obtain ⟨w, hw, rw'⟩ := map_get h2 hi
    exact (leP_code (ho a List.mem_cons_self) (ho b (List.mem_cons_of_mem _ hb))).mpr (hp.1 w (List.mem_of_getElem? hw) _ _ (tupI_of h1) (tupI_of rw'))
theorem pv_sortedP {fa : Γ → Option (List (T2 Int Int))} (hg : Gl X "sorted") (hm : X.mg "sorted" = none) (ha : PV X sl .b a fa) (he : starEach [a] X.env = (false, eval a X.env) :: starEach [] X.env := by rfl) :
    PV X sl .f (.Call (.Name "sorted" p) [a] [] pos) (fun s => (fa s).bind fun x => srtP x) :=
  pv_c1 (fun h => pe_callB (cr_sortT (d := 2) (B := 1000000000000000000) (by decide)) hg hm (by decide +kernel) (pa_cons h pa_nil he) (he := he)) (fun T H x u t Q hT r e q => by
    obtain ⟨⟨h64, hok⟩, rfl⟩ := if_some e
    have hok' : ∀ x ∈ u, okP x = true := List.all_eq_true.mp hok
    obtain ⟨p, xs, rfl, h1, h2⟩ := rb_l r
    refine ⟨p, xs, rfl, h1, by rw [map_len h2]; exact h64, fun v hv => ?_, fun ys l hp hs hl => ?_⟩
    · obtain ⟨i, hi⟩ := List.getElem?_of_mem hv
      have hlt : i < u.length := by
        have := (List.getElem?_eq_some_iff.mp hi).1
        rw [map_len h2] at this
        exact this
      obtain ⟨w, hw, rw'⟩ := map_get h2 (List.getElem?_eq_getElem hlt)
      rw [hi] at hw
      cases hw
      refine ⟨_, tupI_of rw', rfl, fun m hm => ?_⟩
      have := hok' _ (List.getElem_mem hlt)
      unfold okP at this
      simp only [Bool.and_eq_true, decide_eq_true_eq] at this
      simp only [List.mem_cons, List.not_mem_nil, or_false] at hm
      rcases hm with rfl | rfl
      · omega
      · omega
    · obtain ⟨es, p1, p2⟩ := rpa_perm hp h2
      obtain ⟨t', ht', p3⟩ : ∃ t' : List (T2 Int Int), es = t'.map enc ∧ t'.Perm u := by
        obtain ⟨t', h1, h2⟩ := perm_map p1
        exact ⟨t', h1, h2⟩
      subst ht'
      have := srtP_uniq p3 (pairw_rp p2 (fun x hx => hok' x (p3.mem_iff.mp hx)) hs)
      rw [this] at p2
      exact q _ _ (same_new hl) (fr_new hT hl p2)) ha
end
end PL

/-! PL20: lstrip, or of texts, truth of texts. -/
namespace PL
open PySem PySem.Spec L2 PyProof.Rows
open Enc (enc)
variable {Γ Γ' Γb ρ τ α β σ' ι : Type} {X : Cx} {sl : Γ → Sl} {slb : Γb → Sl} {e o a b c : Expr} {k : Kd} {pos p apos : Pos}
theorem drop_take_while {q : Nat → Bool} : ∀ l : List Nat, l.drop (l.takeWhile q).length = l.dropWhile q
  | [] => rfl
  | a :: l => by
    cases h : q a with
    | true => rw [List.takeWhile_cons_of_pos h, List.dropWhile_cons_of_pos h, List.length_cons, List.drop_succ_cons, drop_take_while l]
    | false => rw [List.takeWhile_cons_of_neg (by simp [h]), List.dropWhile_cons_of_neg (by simp [h])]; rfl
theorem lstrip_eq (x y : List Nat) : Txt.lstripChars ⟨x.toArray⟩ ⟨y.toArray⟩ = ⟨(x.dropWhile (y.toArray.contains)).toArray⟩ := by
  unfold Txt.lstripChars
  rw [W.stripBy_eq]
  unfold W.stripped
  simp only [if_true, if_false, Bool.false_eq_true]
  rw [← drop_take_while]
  show Builtin.Str.strSub _ _ _ = _
  unfold Builtin.Str.strSub
  simp [Str.length]
  exact List.take_of_length_le (by rw [List.length_drop]; omega)
def tLst (x y : Tx) : Option Tx := if x.cs.length ≤ sizeLine then some ⟨x.cs.dropWhile (fun c => decide (c ∈ y.cs))⟩ else none
theorem pv_lstripC {fo fe : Γ → Option Tx} (ho : PV X sl .b o fo) (he : PV X sl .b e fe) (hs : starEach [e] X.env = [(false, eval e X.env)] := by rfl) (hbase : attributeBase o "lstrip" X.env (eval o X.env) = eval o X.env := by rfl) (hline : (apos.endLine == pos.line) = true := by rfl) :
    PV X sl .a (.Call (.Attribute o "lstrip" apos) [e] [] pos) (fun s => (fo s).bind fun x => (fe s).bind fun y => tLst x y) :=
  PE.imp (pe_m1 PySem.F.slot_str_lstrip PySem.F.type_str_lstrip mt_lstripChars ho he hs hbase hline) fun σ H Q ⟨γ, S0, S, t, E, hf, q⟩ => by
    obtain ⟨u, w, h1, h2, h3⟩ := bind2 hf
    obtain ⟨hz, rfl⟩ := if_some h3
    refine ⟨γ, S0, S, u, E, h1, fun x H1 s1 r1 => ⟨⟨_, rb_t r1⟩, γ, S0, S, w, E.same s1, h2, fun y H2 s2 r2 => ?_⟩⟩
    refine ⟨_, _, rb_t r1, by rw [rb_t r2], by show Array.size _ ≤ _; simpa using hz, q _ H2 (s1.trans s2) ?_⟩
    show V.str _ = V.str _
    rw [lstrip_eq]
    have ef : w.cs.toArray.contains = fun c => decide (c ∈ w.cs) := by
      funext c
      rw [Bool.eq_iff_iff]
      simp
    rw [ef]
/-- x or y, of texts -/
def tOr (x : Tx) (y : Option Tx) : Option Tx := if x.cs.length ≤ sizeLine then (if x.cs = [] then y else some x) else none
theorem pv_orS {fa fb : Γ → Option Tx} (ha : PV X sl .a a fa) (hb : PV X sl .a b fb) : PV X sl .a (.BoolOp .Or [a, b] pos) (fun s => (fa s).bind fun x => tOr x (fb s)) :=
  PE.imp (pe_orT ha (pe_one hb)) fun σ H Q ⟨γ, S0, S, t, E, hf, q⟩ => by
    obtain ⟨u, h1, h2⟩ := bind1 hf
    obtain ⟨hz, h3⟩ : u.cs.length ≤ sizeLine ∧ (if u.cs = [] then fb γ else some u) = some t := by
      unfold tOr at h2
      by_cases c : u.cs.length ≤ sizeLine
      · rw [if_pos c] at h2; exact ⟨c, h2⟩
      · rw [if_neg c] at h2; cases h2
    refine ⟨γ, S0, S, u, E, h1, fun x H1 s1 r1 => ?_⟩
    have r2 : x = .str ⟨u.cs.toArray⟩ := r1
    subst r2
    have hlen : (⟨u.cs.toArray⟩ : Str).length = u.cs.length := by show Array.size _ = _; simp
    by_cases c : u.cs = []
    · rw [if_pos c] at h3
      refine ⟨false, ⟨by rw [hlen]; exact hz, by rw [hlen, c]; rfl⟩, ?_⟩
      show if (false = true) then _ else _
      rw [if_neg (by decide)]
      exact ⟨γ, S0, S, t, E.same s1, h3, fun v H2 s2 r => q v H2 (s1.trans s2) r⟩
    · rw [if_neg c] at h3
      have h4 : u = t := Option.some.inj h3
      have hpos : 0 < u.cs.length := List.length_pos_iff.mpr c
      refine ⟨true, ⟨by rw [hlen]; exact hz, by rw [hlen]; have : ((u.cs.length : Int) != 0) = true := (bne_iff_ne).mpr (by omega); exact this.symm⟩, ?_⟩
      show if (true = true) then _ else _
      rw [if_pos rfl]
      exact q _ H1 s1 (by rw [← h4]; rfl)
end PL

/-! PL21: sorted(set(xs)), ints, any number of them. -/
namespace L2
open PySem PySem.Spec PyProof.Rows
section
variable {P : Program} {w : World} {A : Around} {E : Value → Shared → Prop} {s : Shared} {a : Addr}
/-- sorted(s) of a set of ints, any number of them -/
theorem sorted_setN {S : Int → Bool} {n : Nat} {Q : Value → Shared → Prop} (R : SetR w s.heap a S n) (hh : A.handled = none) (hn : n ≤ sizeLine)
    (hQ : ∀ s' p (out : Array Value) (c : Nat) (ns : List Int), (∀ b o, s.heap.get? b = some o → s'.heap.get? b = some o) → s'.gens = s.gens → s'.os = s.os → s.heap.objs.size ≤ p →
      s'.heap.get? p = some (seqObj "list" out c) → IntsAre out.toList ns → ns.Pairwise (· < ·) → (∀ k, k ∈ ns ↔ S k = true) → ns.length = n → Q (.ref p) s') :
    wpAny (model P w) A (call (.builtin "sorted") [.ref a]) Q E s := by
  obtain ⟨o, es, ep, t, ho, hex, hd, g, nd, hm, hb, hf, hc, hr, hl⟩ := R
  refine Calls.call_function_entry kind_sorted plain_sorted entry_sorted (args_sorted1 _) ?_
  unfold Builtin.«sorted»
  refine wpAny_bind (m := checkCount "sorted" 1 1 _) (wpAny_pure ?_)
  refine wpAny_bind (collect_set (A := A.in1) hh ⟨o, ho, hex.1, hd⟩ hf hb hr hl fun s1 vs k1 hz g1 o1 pm => ?_)
  have len : vs.length = n := by rw [pm.length_eq, List.length_map, Array.length_toList]; exact hc
  have hI : IntsAre vs (vs.map Builtin.Re.reRawOf) := ints_of vs fun v hv => by
    obtain ⟨e, he, q⟩ := List.mem_map.mp (pm.mem_iff.mp hv)
    obtain ⟨k, tk, h1, _⟩ := g e he
    exact ⟨k, tk, by rw [← q]; exact h1⟩
  have pk : (vs.map Builtin.Re.reRawOf).Perm (es.toList.map keyOf) := by
    have q := pm.map Builtin.Re.reRawOf
    rw [List.map_map] at q
    exact q
  refine wpAny_bind (wpAny_newList ?_ (by rw [len]; exact hn))
  have hL : (s1.heap.push (seqObj "list" vs.toArray 0)).get? s1.heap.objs.size = some (seqObj "list" vs.toArray 0) := Heap.get?_push_size _ rfl
  refine wpAny_bind (wpAny_holding (wpAny_call_entry slot_list_sort ⟨_, hL, rfl⟩ entry_list_sort
    (SrtO.list_sort_ord SrtO.swo_int hL (by rw [len]; exact hn) (fun h2 => SrtO.ints_sortable hI h2) fun out h1 h2 => ⟨_, rfl, ?_⟩) (args_list_sort _)))
  obtain ⟨i1, i2, i3⟩ := SrtO.ints_out hI h1 h2
  obtain ⟨c, hc'⟩ := sortedHeap_at (vs := vs) (out := out.toArray) hL
  have pn := i2.trans pk
  refine wpAny_pure ⟨_, rfl, hQ _ s1.heap.objs.size out.toArray c (out.map SrtO.iv) (fun b u e => ?_) g1 o1 hz hc' (by simpa using i1) (lt_of_le_nodup _ i3 (pn.nodup_iff.mpr nd)) (fun k => by rw [pn.mem_iff, ← hm k]) ?_⟩
  · have q := k1 b u e
    have lt := Heap.lt_size q
    show (sortedHeap (s1.heap.push (seqObj "list" vs.toArray 0)) s1.heap.objs.size vs out.toArray).get? b = some u
    rw [sortedHeap_old (Nat.ne_of_lt lt) (by rw [size_push']; exact Nat.lt_succ_of_lt lt)]
    exact Heap.get?_push_of_some _ q
  · rw [pn.length_eq, List.length_map, Array.length_toList]; exact hc
set_option maxHeartbeats 3200000 in
/-- set(l) of a list of ints (the road of set(t), a tuple, turned to lists) -/
theorem call_set_listN {l : Addr} {items : Array Value} (ns : List Int) {Q : Value → Shared → Prop} (hh : A.handled = none) (hl : s.heap.IsList l items) (hit : IntsAre items.toList ns) (hb : ns.length + 1 < scanBound)
    (h : ∀ (h' : Heap) (tk c : Nat), SetR w h' s.heap.objs.size (fun j => decide (j ∈ ns)) c → c ≤ ns.length → (∀ b o, s.heap.get? b = some o → h'.get? b = some o) → Q (.ref s.heap.objs.size) { s with heap := h', toks := tk }) :
    wpAny (model P w) A (call (.type "set") [.ref l]) Q E s := by
  have size : items.size = ns.length := by
    have q := IntsAre.length hit
    rw [Array.length_toList] at q
    exact q
  obtain ⟨c, tl, hmro⟩ := F.called_set.mro
  have hmade := F.called_set.made
  have hsub := F.called_set.sub
  refine wpAny_call (codeAny_of_tree ?_)
  show wpAny _ _ (callAny (.type "set") _) _ _ _
  refine wpAny_pure ⟨Code.quiet_builtin _ (by decide +kernel), codeAny_builtin F.entry_type_call ?_⟩
  rw [Around.under_plain (weight_type_call_type "set" [.ref l] []) rfl]
  have h1 := F.called_set.notType
  have h2 := F.called_set.canCreate
  have hct := F.typeCall_set_1 (.ref l)
  repeat (any_goals (first | assumption | wp_step))
  generalize hnw : s.heap.push { cls := .type "set", dict := none, data := .set #[] 0 (.fresh 0 0 (!w.params.followText "set-order")) } = new
  have at_new : new.get? s.heap.objs.size = some { cls := .type "set", dict := none, data := .set #[] 0 (.fresh 0 0 (!w.params.followText "set-order")) } := by rw [← hnw]; exact Heap.get?_push_size _ rfl
  have sz_new : new.objs.size = s.heap.objs.size + 1 := by rw [← hnw]; exact Heap.size_push ..
  have old : ∀ b o, s.heap.get? b = some o → new.get? b = some o := fun b o e => by rw [← hnw]; exact Heap.get?_push_of_some _ e
  refine codeAny_mono (code_set_led1 (.ref l) (E := E) (Q₁ := fun v s₁ => v = .ref s.heap.objs.size ∧ s₁ = { s with heap := new }) ⟨rfl, by rw [← hnw]⟩) fun r s₁ hr => ?_
  cases r with
  | error e => exact hr
  | ok fl =>
    cases fl with
    | ret v =>
      obtain ⟨rfl, rfl⟩ := hr
      have hT : Shared.TypeIs { s with heap := new } (.ref s.heap.objs.size) "set" := ⟨_, at_new, rfl⟩
      have hli := F.called_set.init.lookup
      have hbi := F.called_set.init.bind (.ref s.heap.objs.size)
      repeat (any_goals (first | assumption | wp_step))
      refine codeAny_mono (codeAny_call_builtin (R := wants (fun r s₂ => r = .none ∧ ∃ h' tk c, s₂ = { s with heap := h', toks := tk } ∧ SetR w h' s.heap.objs.size (fun j => decide (j ∈ ns)) c ∧ c ≤ ns.length ∧
          (∀ b o, s.heap.get? b = some o → h'.get? b = some o)) E) F.called_set.init.plain F.entry_set_init (check_set_init_1 hT ?_)) fun r₂ s₂ hr₂ => ?_
      · obtain ⟨ol, hol, hcl, nl, hdl⟩ := hl
        obtain ⟨ocls, odict, odata, oslots⟩ := ol
        simp only at hcl hdl
        subst hcl; subst hdl
        have hol' := old _ _ hol
        have hsls := F.sub_list_set
        have hslf := F.sub_list_frozenset
        have hne : (Value.type "list" == Value.type "dict") = false := by decide
        have isl : new.IsList l items := ⟨_, hol', rfl, nl, rfl⟩
        unfold Builtin.«set.__init__» noKeywords Builtin.Frozenset.updateFrom
        generalize hPI : pyIter = PI
        wp_walk
        subst hPI
        refine wpAny_pyIter_list isl ?_
        refine wpAny_bind (wpAny_runValue ?_)
        have low : l < s.heap.objs.size := Heap.lt_size hol
        have hh3 : A.in1.in1.in1.handled = none := by simp [hh]
        have far : l ≠ new.objs.size := by rw [sz_new]; exact Nat.ne_of_lt (Nat.lt_succ_of_lt low)
        have out : s.heap.objs.size ∉ [new.objs.size, l] := by
          rw [sz_new]; simp only [List.mem_cons, List.not_mem_nil, or_false, not_or]
          exact ⟨Nat.ne_of_lt (Nat.lt_succ_self _), Nat.ne_of_gt low⟩
        have hval : ∀ (i : Nat) (v : Value), items[i]? = some v → ∃ k t, ns[i]? = some k ∧ v = .int k t := fun i v hv => by
          have hi : i < ns.length := by rw [← size]; exact (Array.getElem?_eq_some_iff.mp hv).1
          obtain ⟨t, e⟩ := PyProof.Rows.IntsAre.int_at hit i v (by rw [Array.getElem?_toList]; exact hv)
          refine ⟨ns[i], t, List.getElem?_eq_getElem hi, ?_⟩
          rw [e, List.getD_eq_getElem?_getD, List.getElem?_eq_getElem hi] <;> rfl
        refine set_update_ints ((Walks.list hh3 _ l far items).toS) s.heap.objs.size out ns size hb hval (items.size - 0) 0 _ (by omega) (Nat.zero_le _)
          ⟨⟨_, Heap.get?_push_size _ rfl, rfl, rfl⟩, (isl.push _)⟩ ⟨0, Nat.le_refl 0, setR_new_at (Heap.get?_push_of_some _ at_new)⟩ ?hR
        intro s' c' hm hc' hS'
        obtain ⟨h', g2, d', tk', os'⟩ := s'
        have eg : g2 = s.gens := hm.gens
        have ed : d' = s.drawn := hm.drawn
        have eo : os' = s.os := hm.os
        subst eg; subst ed; subst eo
        show wpAny _ _ _ _ _ _
        refine wpAny_pure ?_
        show wpAny _ _ (ret Value.none) _ _ _
        rw [size] at hc'
        refine wpAny_pure ⟨rfl, h', tk', c', rfl, hS', hc', fun b o e => ?_⟩
        have hb0 : b < s.heap.objs.size := Heap.lt_size e
        exact hm.heap b o (by simp only [List.mem_cons, List.not_mem_nil, or_false, not_or]; exact ⟨Nat.ne_of_lt hb0, by rw [sz_new]; exact Nat.ne_of_lt (Nat.lt_succ_of_lt hb0)⟩) (Heap.get?_push_of_some _ (old _ _ e))
      · cases r₂ with
        | error e => exact hr₂
        | ok fl₂ =>
          cases fl₂ with
          | ret r =>
            obtain ⟨rfl, h', tk, c', rfl, hS', hc', hk'⟩ := hr₂
            repeat (any_goals (first | assumption | wp_step))
            exact h _ _ _ hS' hc' hk'
          | _ => exact hr₂.elim
    | _ => exact hr.elim
end
end L2

namespace L2
open PySem PySem.Spec PyProof.Rows
section
variable {X : Cx}
/-- set(xs), a list of ints -/
def rSetI (K : PySem.W.Frag) (w : World) : List V → Hp → VK → Prop := fun vs H Q => ∃ (a : Addr) (ns : List Int), vs = [V.ref a] ∧ SqL K H a (ns.map V.int) ∧ ns.length + 1 < scanBound ∧
  ∀ (p : Addr) (c : Nat), H p = none → c ≤ ns.length → Q (.ref p) (upd H p (SetO w p (fun j => decide (j ∈ ns)) c))
theorem cr_setL (hc : X.calm = true) : CallR X (.type "set") (rSetI X.K X.w) := by
  intro pins s σ H vs us Q I r h
  obtain ⟨a, ns, rfl, hs, hb, q⟩ := h
  obtain ⟨its, rv, hl, hz⟩ := I.list hs
  rw [Vals.ref1 r]
  refine call_set_listN ns (I.ok.hd hc) hl.isList (by simpa using rv.ints) hb fun h' tk c new hc' hk => ?_
  exact ⟨.ref _, upd H s.heap.objs.size (SetO X.w s.heap.objs.size (fun j => decide (j ∈ ns)) c), I.laid (t' := tk) hk (Nat.le_refl _) (setO_new new), rfl, q _ c (I.hok.fresh (Nat.le_refl _)) hc'⟩
/-- sorted of it -/
def rSortedSetN (w : World) : List V → Hp → VK → Prop := fun vs H Q => ∃ (a : Addr) (S : Int → Bool) (n : Nat), vs = [V.ref a] ∧ H a = some (SetO w a S n) ∧ n ≤ sizeLine ∧
  ∀ (ns : List Int) (p : Addr), ns.Pairwise (· < ·) → (∀ k : Int, k ∈ ns ↔ S k = true) → H p = none → Q (.ref p) (upd H p (.lst (ns.map V.int)))
theorem cr_sortedSetN (hc : X.calm = true) : CallR X (.builtin "sorted") (rSortedSetN X.w) := by
  intro pins s σ H vs us Q I r h
  obtain ⟨a, S, n, rfl, ha, hn, q⟩ := h
  rw [Vals.ref1 r]
  refine sorted_setN (setO_get I ha) (I.ok.hd hc) hn fun s' p out c ns k g o hp hg hi hs hm hl => ?_
  have len : (ns.map V.int).length ≤ sizeLine := by rw [List.length_map, hl]; exact hn
  have free : H p = none := I.hok.fresh hp
  have J : Inv X pins σ (upd H p (.lst (ns.map V.int))) { s with heap := s'.heap, gens := s'.gens, drawn := s'.drawn, toks := s'.toks } :=
    I.call (ch := []) (Un.laid k hp free) (I.hok.laid k hp ⟨len, out.toList, c, vals_of_ints hi, hg⟩) (by rw [g]; exact I.bare) (fun _ z => nomatch z)
  have e : s' = { s with heap := s'.heap, gens := s'.gens, drawn := s'.drawn, toks := s'.toks } := by
    cases s'
    cases s
    cases o
    rfl
  rw [e]
  exact ⟨.ref p, _, J, rfl, q ns p hs hm free⟩
end
end L2
namespace PL
open PySem PySem.Spec L2
/-- the members in order, each once -/
def insS (x : Int) : List Int → List Int
  | [] => [x]
  | y :: ys => if x < y then x :: y :: ys else if x = y then y :: ys else y :: insS x ys
def srtS : List Int → List Int
  | [] => []
  | x :: xs => insS x (srtS xs)
theorem mem_insS {x k : Int} : ∀ {l : List Int}, k ∈ insS x l ↔ k = x ∨ k ∈ l
  | [] => by simp [insS]
  | y :: ys => by
    unfold insS
    split
    · simp
    · split
      · rename_i h
        subst h
        simp
      · rw [List.mem_cons, mem_insS (l := ys), List.mem_cons]
        constructor
        · rintro (h | h | h)
          · exact .inr (.inl h)
          · exact .inl h
          · exact .inr (.inr h)
        · rintro (h | h | h)
          · exact .inr (.inl h)
          · exact .inl h
          · exact .inr (.inr h)
theorem mem_srtS {k : Int} : ∀ {l : List Int}, k ∈ srtS l ↔ k ∈ l
  | [] => Iff.rfl
  | x :: xs => by rw [srtS, mem_insS, mem_srtS, List.mem_cons]
theorem pw_insS {x : Int} : ∀ {l : List Int}, l.Pairwise (· < ·) → (insS x l).Pairwise (· < ·)
  | [], _ => .cons (fun _ h => absurd h (by simp)) .nil
  | y :: ys, h => by
    obtain ⟨h1, h2⟩ := List.pairwise_cons.mp h
    unfold insS
    split
    · rename_i hx
      exact .cons (fun z hz => by
        rcases List.mem_cons.mp hz with rfl | hz
        · exact hx
        · exact Int.lt_trans hx (h1 z hz)) h
    · split
      · exact h
      · rename_i h3 h4
        refine .cons (fun z hz => ?_) (pw_insS h2)
        rcases mem_insS.mp hz with rfl | hz
        · omega
        · exact h1 z hz
theorem pw_srtS : ∀ {l : List Int}, (srtS l).Pairwise (· < ·)
  | [] => .nil
  | x :: xs => pw_insS pw_srtS
theorem lt_uniq : ∀ {a b : List Int}, a.Pairwise (· < ·) → b.Pairwise (· < ·) → (∀ k, k ∈ a ↔ k ∈ b) → a = b
  | [], [], _, _, _ => rfl
  | [], y :: ys, _, _, h => absurd ((h y).mpr List.mem_cons_self) (by simp)
  | x :: xs, [], _, _, h => absurd ((h x).mp List.mem_cons_self) (by simp)
  | x :: xs, y :: ys, h1, h2, h => by
    obtain ⟨a1, a2⟩ := List.pairwise_cons.mp h1
    obtain ⟨b1, b2⟩ := List.pairwise_cons.mp h2
    have e : x = y := by
      rcases List.mem_cons.mp ((h x).mp List.mem_cons_self) with q | q
      · exact q
      · rcases List.mem_cons.mp ((h y).mpr List.mem_cons_self) with r | r
        · exact r.symm
        · have := a1 y r
          have := b1 x q
          omega
    subst e
    congr 1
    refine lt_uniq a2 b2 fun k => ⟨fun hk => ?_, fun hk => ?_⟩
    · rcases List.mem_cons.mp ((h k).mp (List.mem_cons_of_mem _ hk)) with q | q
      · have := a1 k hk
        omega
      · exact q
    · rcases List.mem_cons.mp ((h k).mpr (List.mem_cons_of_mem _ hk)) with q | q
      · have := b1 k hk
        omega
      · exact q
def srtSet (x : List Int) : Option (List Int) := if x.length ≤ 4000 then some (srtS x) else none
section
variable {Γ : Type} {X : Cx} {sl : Γ → Sl} {a : Expr} {p p2 pos pos2 : Pos}
theorem pv_srtset {fa : Γ → Option (List Int)} (hc : X.calm = true) (hg : Gl X "sorted") (hm : X.mg "sorted" = none) (hg2 : Gl X "set") (hm2 : X.mg "set" = none) (ha : PV X sl .b a fa)
    (he : starEach [a] X.env = (false, eval a X.env) :: starEach [] X.env := by rfl)
    (he2 : starEach [Expr.Call (.Name "set" p2) [a] [] pos2] X.env = (false, eval (Expr.Call (.Name "set" p2) [a] [] pos2) X.env) :: starEach [] X.env := by rfl) :
    PV X sl .f (.Call (.Name "sorted" p) [.Call (.Name "set" p2) [a] [] pos2] [] pos) (fun s => (fa s).bind fun x => srtSet x) :=
  pv_1 (r := fun x H Q => rSetI X.K X.w [x] H fun y H1 => rSortedSetN X.w [y] H1 Q) (fun {ta} h => pe_callB (cr_sortedSetN hc) hg hm (by decide +kernel) (pa_cons (pe_callTy (p := p2) (pos := pos2) (cr_setL hc) hg2 hm2 (by decide +kernel) (pa_cons h pa_nil he) (he := he)) pa_nil he2) (he := he2)) (fun T H x u t Q hT r e q => by
    obtain ⟨hl, rfl⟩ := if_some e
    obtain ⟨l, xs, rfl, h1, h2⟩ := rb_l r
    have e2 := rpa_int h2
    rw [e2] at h1
    refine ⟨l, u, rfl, h1, by unfold scanBound; omega, fun p c hp hc' => ?_⟩
    refine ⟨p, _, c, rfl, upd_same, by rw [sizeLine_eq]; omega, fun ns p2 hs hm hp2 => ?_⟩
    have en : ns = srtS u := lt_uniq hs pw_srtS fun k => by rw [hm, mem_srtS]; simp
    subst en
    have s1 : Same H (upd H p (SetO X.w p (fun j => decide (j ∈ u)) c)) := same_new hp
    have hT1 : ∀ a, T a → upd H p (SetO X.w p (fun j => decide (j ∈ u)) c) a ≠ none := fun a ha z => by
      obtain ⟨o, ho⟩ := Option.ne_none_iff_exists'.mp (hT a ha)
      rw [s1 a o ho] at z
      cases z
    exact q _ _ (s1.trans (same_new hp2)) ((fr_new hT1 hp2 (rpa_ints _)).back s1)) ha
end
end PL

/-! PL22: () beside pairs. -/
namespace PL
open PySem PySem.Spec L2 Enc
inductive E2 (α β : Type)
  | e
  | v (t : T2 α β)
deriving DecidableEq
section
variable {α β : Type} [Enc α] [Enc β]
instance : Enc (E2 α β) := ⟨fun t => match t with | .e => .tuple [] | .v t => enc t⟩
instance : NoL (E2 α β) := ⟨fun t => match t with | .e => ⟨nofun, nofun⟩ | .v t => ⟨nofun, nofun⟩⟩
instance : NN (E2 α β) := ⟨fun t => match t with | .e => nofun | .v t => nofun⟩
instance [DecidableEq α] [EqT α] [DecidableEq β] [EqT β] : EqT (E2 α β) := ⟨fun t => match t with | .e => true | .v t => EqT.ok t, EqT.dep (T2 α β), fun t => match t with
  | .e => by
    show PyData.depth (.tuple []) ≤ max (EqT.dep α) (EqT.dep β) + 1
    simp [PyData.depth, PyData.depthAll]
  | .v t => EqT.dle t, fun t h => match t, h with
  | .e, _ => rfl
  | .v t, h => EqT.can t h, fun s t => match s, t with
  | .e, .e => by
    show PyData.eqv (.tuple []) (.tuple []) = _
    simp [PyData.eqv, PyData.eqvAll]
  | .e, .v t => by
    show PyData.eqv (.tuple []) (.tuple [enc t.a, enc t.b]) = _
    simp [PyData.eqv, PyData.eqvAll]
  | .v s, .e => by
    show PyData.eqv (.tuple [enc s.a, enc s.b]) (.tuple []) = _
    simp [PyData.eqv, PyData.eqvAll]
  | .v s, .v t => by
    have e := EqT.eqv s t
    by_cases h : s = t
    · subst h; simp at e ⊢; exact e
    · have h2 : ¬ (E2.v s = E2.v t) := fun z => h (by cases z; rfl)
      simp [h2, h] at e ⊢; exact e⟩
def unE : List (E2 α β) → Option (List (T2 α β))
  | [] => some []
  | .e :: _ => none
  | .v t :: ts => (unE ts).map (t :: ·)
theorem unE_enc : ∀ {x : List (E2 α β)} {y : List (T2 α β)}, unE x = some y → enc y = enc x
  | [], y, h => by cases h; rfl
  | .e :: _, y, h => by cases h
  | .v t :: ts, y, h => by
    rw [unE] at h
    cases h1 : unE ts with
    | none => rw [h1] at h; cases h
    | some z =>
      rw [h1] at h
      cases h
      have e := unE_enc h1
      have e : PyData.list (z.map enc) = .list (ts.map enc) := e
      show PyData.list (enc t :: z.map enc) = .list (enc t :: ts.map enc)
      rw [PyData.list.inj e]
theorem unE_map : ∀ y : List (T2 α β), unE (y.map E2.v) = some y
  | [] => rfl
  | t :: ts => by rw [List.map_cons, unE, unE_map ts]; rfl
end
section
variable {Γ : Type} {X : Cx} {sl : Γ → Sl} {e : Expr} {k : Kd} {pos : Pos} {α β : Type}
theorem PV.pc [Enc α] [Enc β] {f : Γ → Option α} (g : α → Option β) (p : ∀ {x y}, g x = some y → enc y = enc x) (h : PV X sl k e f) : PV X sl k e (fun s => (f s).bind fun t => g t) := PE.imp h fun σ H Q ⟨γ, S0, S, t, E, hf, q⟩ => by
  obtain ⟨u, h1, h2⟩ := bind1 hf
  exact ⟨γ, S0, S, u, E, h1, fun v H' s r => q v H' s (by rw [p h2]; exact r)⟩
theorem pv_e2 [Enc α] [Enc β] {x1} : PV X sl .a (.Tuple [] x1 pos) (fun _ => some (E2.e : E2 α β)) := PE.imp (pe_tup pa_nil) fun σ H Q ⟨γ, S0, S, t, E, hf, q⟩ => by
  cases hf
  exact ⟨by show 0 ≤ sizeLine; decide, fun p hp => q _ _ (same_new hp) (rp_newT E.dT hp rfl)⟩
end
end PL


set_option Elab.async false
set_option linter.all false
set_option maxRecDepth 100000
set_option maxHeartbeats 4000000
namespace LW
open PySem PySem.Spec L2 PL
open Enc (enc)
def topS (i : Nat) : Stmt := PySem.Challenge.pw_reckonedbyhand_k58_whole_products_by_shi.main.body.getD i (.Pass ⟨0, 0, 0, 0⟩)
/-- what the top has left -/
structure Top (K : PySem.W.Frag) (mg : Str → Option Value) where
  a__law_draws : Addr
  d__law_draws : FuncData
  F__law_draws : Fun K "_law_draws" "_law_draws" (topS 21) a__law_draws d__law_draws
  b__law_draws : Binds K d__law_draws ["script"] []
  m__law_draws : mg "_law_draws" = some (.ref a__law_draws)
  a_check_number : Addr
  d_check_number : FuncData
  F_check_number : Fun K "check_number" "check_number" (topS 8) a_check_number d_check_number
  b_check_number : Binds K d_check_number ["number", "most"] []
  m_check_number : mg "check_number" = some (.ref a_check_number)
  a_lean_row : Addr
  d_lean_row : FuncData
  F_lean_row : Fun K "lean_row" "lean_row" (topS 4) a_lean_row d_lean_row
  b_lean_row : Binds K d_lean_row ["number"] []
  m_lean_row : mg "lean_row" = some (.ref a_lean_row)
  a_shifts_of : Addr
  d_shifts_of : FuncData
  F_shifts_of : Fun K "shifts_of" "shifts_of" (topS 15) a_shifts_of d_shifts_of
  b_shifts_of : Binds K d_shifts_of ["number"] []
  m_shifts_of : mg "shifts_of" = some (.ref a_shifts_of)
  a_shifts : Addr
  d_shifts : FuncData
  F_shifts : Fun K "shifts" "shifts" (topS 16) a_shifts d_shifts
  b_shifts : Binds K d_shifts ["number"] []
  m_shifts : mg "shifts" = some (.ref a_shifts)
  a_doubled : Addr
  d_doubled : FuncData
  F_doubled : Fun K "doubled" "doubled" (topS 17) a_doubled d_doubled
  b_doubled : Binds K d_doubled ["number", "place"] []
  m_doubled : mg "doubled" = some (.ref a_doubled)
  a_by_shifts : Addr
  d_by_shifts : FuncData
  F_by_shifts : Fun K "by_shifts" "by_shifts" (topS 18) a_by_shifts d_by_shifts
  b_by_shifts : Binds K d_by_shifts ["number", "other"] []
  m_by_shifts : mg "by_shifts" = some (.ref a_by_shifts)
  a__law_mix : Addr
  d__law_mix : FuncData
  F__law_mix : Fun K "_law_mix" "_law_mix" (topS 22) a__law_mix d__law_mix
  b__law_mix : Binds K d__law_mix ["draws", "k", "many"] []
  m__law_mix : mg "_law_mix" = some (.ref a__law_mix)
  a_next_of : Addr
  d_next_of : FuncData
  F_next_of : Fun K "next_of" "next_of" (topS 9) a_next_of d_next_of
  b_next_of : Binds K d_next_of ["told", "number", "steps"] []
  m_next_of : mg "next_of" = some (.ref a_next_of)
  a_gone_on : Addr
  d_gone_on : FuncData
  F_gone_on : Fun K "gone_on" "gone_on" (topS 10) a_gone_on d_gone_on
  b_gone_on : Binds K d_gone_on ["told", "number", "steps"] []
  m_gone_on : mg "gone_on" = some (.ref a_gone_on)
  a_first_of : Addr
  d_first_of : FuncData
  F_first_of : Fun K "first_of" "first_of" (topS 11) a_first_of d_first_of
  b_first_of : Binds K d_first_of ["number"] []
  m_first_of : mg "first_of" = some (.ref a_first_of)
  a_least_steps : Addr
  d_least_steps : FuncData
  F_least_steps : Fun K "least_steps" "least_steps" (topS 12) a_least_steps d_least_steps
  b_least_steps : Binds K d_least_steps ["number"] []
  m_least_steps : mg "least_steps" = some (.ref a_least_steps)
  a_cheapest : Addr
  d_cheapest : FuncData
  F_cheapest : Fun K "cheapest" "cheapest" (topS 19) a_cheapest d_cheapest
  b_cheapest : Binds K d_cheapest ["number", "add", "shift"] []
  m_cheapest : mg "cheapest" = some (.ref a_cheapest)
  a__law_raised : Addr
  d__law_raised : FuncData
  F__law_raised : Fun K "_law_raised" "_law_raised" (topS 23) a__law_raised d__law_raised
  b__law_raised : Binds K d__law_raised ["place"] []
  m__law_raised : mg "_law_raised" = some (.ref a__law_raised)
  a__law_fewest : Addr
  d__law_fewest : FuncData
  F__law_fewest : Fun K "_law_fewest" "_law_fewest" (topS 24) a__law_fewest d__law_fewest
  b__law_fewest : Binds K d__law_fewest ["number"] []
  m__law_fewest : mg "_law_fewest" = some (.ref a__law_fewest)
  a_law : Addr
  d_law : FuncData
  F_law : Fun K "law" "law" (topS 25) a_law d_law
  b_law : Binds K d_law ["script"] []
  m_law : mg "law" = some (.ref a_law)
  z_abs : mg "abs" = none
  z_enumerate : mg "enumerate" = none
  z_int : mg "int" = none
  z_len : mg "len" = none
  z_min : mg "min" = none
  z_range : mg "range" = none
  z_repr : mg "repr" = none
  z_set : mg "set" = none
  z_sorted : mg "sorted" = none
  z_sum : mg "sum" = none
  c_MOST_BINARY : ∃ t : Tok, mg "MOST_BINARY" = some (.int 1000000 t)
  c_MOST_NUMBER : ∃ t : Tok, mg "MOST_NUMBER" = some (.int 60 t)
  c_MOST_PRICE : ∃ t : Tok, mg "MOST_PRICE" = some (.int 100 t)
variable {P : Program} {w : World} {K : PySem.W.Frag} {mg : Str → Option Value} {base : Heap}
/-! ## _law_draws -/
structure S__law_draws where
  mk ::
  v_script : (List Int)
  v_draws : (List Int)
  v_k : Int
  v_rest : Int
  v_turn : Int
  v_mixed : Int
@[reducible] def sl__law_draws_0 (s : S__law_draws) : Sl := (fun s : S__law_draws => ([some (Mo.b, enc s.v_script), some (Mo.o, enc s.v_draws), some (Mo.a, enc s.v_k), some (Mo.a, enc s.v_rest), some (Mo.a, enc s.v_turn), none] : Sl)) s
@[reducible] def sl__law_draws_1 (s : S__law_draws) : Sl := (fun s : S__law_draws => ([some (Mo.b, enc s.v_script), some (Mo.o, enc s.v_draws), some (Mo.a, enc s.v_k), some (Mo.a, enc s.v_rest), none, none] : Sl)) s
@[reducible] def sl__law_draws_2 (s : S__law_draws) : Sl := (fun s : S__law_draws => ([some (Mo.b, enc s.v_script), some (Mo.o, enc s.v_draws), some (Mo.a, enc s.v_k), some (Mo.a, enc s.v_rest), none, some (Mo.a, enc s.v_mixed)] : Sl)) s
@[reducible] def sl__law_draws_3 (s : S__law_draws) : Sl := (fun s : S__law_draws => ([some (Mo.b, enc s.v_script), some (Mo.o, enc s.v_draws), some (Mo.a, enc s.v_k), none, none, none] : Sl)) s
@[reducible] def sl__law_draws_4 (s : S__law_draws) : Sl := (fun s : S__law_draws => ([some (Mo.b, enc s.v_script), some (Mo.o, enc s.v_draws), none, none, none, none] : Sl)) s
@[reducible] def sl__law_draws_5 (s : S__law_draws) : Sl := (fun s : S__law_draws => ([some (Mo.b, enc s.v_script), none, none, none, none, none] : Sl)) s
def lp__law_draws_0 (s : S__law_draws) : Option (Out S__law_draws (List Int)) :=
  seqO (((some s.v_rest).bind fun x297 => (some (0 : Int)).bind fun x298 => some (decide (x297 > x298))).bind fun x323 => if x323 = true then
  (seqO ((((some s.v_rest).bind fun x309 => some x309).bind fun x310 => (some (65536 : Int)).bind fun x311 => iMod x310 x311).bind fun x312 => (push s.v_draws x312).bind fun x313 => some (Out.nx (ρ := (List Int)) { s with v_draws := x313 })) fun s =>
  seqO (((some s.v_rest).bind fun x320 => (some (65536 : Int)).bind fun x321 => iDiv x320 x321).bind fun x322 => some (Out.nx (ρ := (List Int)) { s with v_rest := x322 })) fun s =>
  some (Out.nx (ρ := (List Int)) s))
  else some (Out.nx (ρ := (List Int)) s)) fun s =>
  some (Out.nx (ρ := (List Int)) { s with v_turn := 0 })
def lp__law_draws_1 (s : S__law_draws) : Option (Out S__law_draws (List Int)) :=
  seqO ((((some s.v_script).bind fun x198 => (some s.v_k).bind fun x199 => atI x198 x199).bind fun x200 => some (x200.natAbs : Int)).bind fun x201 => some (Out.nx (ρ := (List Int)) { s with v_rest := x201 })) fun s =>
  seqO (((some s.v_rest).bind fun x259 => ((some (10 : Int)).bind fun x257 => (some (18 : Int)).bind fun x258 => iPow x257 x258).bind fun x260 => some (decide (x259 ≥ x260))).bind fun x433 => if x433 = true then
  (seqO (((some (60 : Int)).bind fun x284 => rng1 x284).bind fun x324 => forO (fun (s : S__law_draws) (t : Int) => { s with v_turn := t }) lp__law_draws_0 x324 s) fun s =>
  some (Out.nx (ρ := (List Int)) s))
  else seqO ((((((some s.v_rest).bind fun x349 => (some (48271 : Int)).bind fun x350 => iMul x349 x350).bind fun x355 => (((some s.v_k).bind fun x351 => (some (1 : Int)).bind fun x352 => some (x351 + x352)).bind fun x353 => (some (69621 : Int)).bind fun x354 => iMul x353 x354).bind fun x356 => some (x355 + x356)).bind fun x357 => some x357).bind fun x358 => (some (2147483647 : Int)).bind fun x359 => iMod x358 x359).bind fun x360 => some (Out.nx (ρ := (List Int)) { s with v_mixed := x360 })) fun s =>
  seqO (((((((some s.v_mixed).bind fun x385 => (some (16807 : Int)).bind fun x386 => iMul x385 x386).bind fun x389 => ((some (11 : Int)).bind fun x387 => (some s.v_k).bind fun x388 => iMul x387 x388).bind fun x390 => some (x389 + x390)).bind fun x391 => (some (5 : Int)).bind fun x392 => some (x391 + x392)).bind fun x393 => some x393).bind fun x394 => (some (2147483629 : Int)).bind fun x395 => iMod x394 x395).bind fun x396 => some (Out.nx (ρ := (List Int)) { s with v_mixed := x396 })) fun s =>
  seqO ((((some s.v_mixed).bind fun x407 => some x407).bind fun x408 => (some (65536 : Int)).bind fun x409 => iMod x408 x409).bind fun x410 => (push s.v_draws x410).bind fun x411 => some (Out.nx (ρ := (List Int)) { s with v_draws := x411 })) fun s =>
  seqO (((((some s.v_mixed).bind fun x426 => (some (65536 : Int)).bind fun x427 => iDiv x426 x427).bind fun x428 => some x428).bind fun x429 => (some (32768 : Int)).bind fun x430 => iMod x429 x430).bind fun x431 => (push s.v_draws x431).bind fun x432 => some (Out.nx (ρ := (List Int)) { s with v_draws := x432 })) fun s =>
  some (Out.nx (ρ := (List Int)) { s with v_mixed := 0 })) fun s =>
  some (Out.nx (ρ := (List Int)) { s with v_k := 0, v_rest := 0 })
def fb__law_draws (s : S__law_draws) : Option (Out S__law_draws (List Int)) :=
  seqO ((some ([] : List Int)).bind fun x63 => some (Out.nx (ρ := (List Int)) { s with v_draws := x63 })) fun s =>
  seqO ((((some (63 : Int)).bind fun x187 => ((some s.v_script).bind fun x186 => some (x186.length : Int)).bind fun x188 => some (min x187 x188)).bind fun x189 => rng1 x189).bind fun x434 => forO (fun (s : S__law_draws) (t : Int) => { s with v_k := t }) lp__law_draws_1 x434 s) fun s =>
  seqO (some (Out.rt s.v_draws)) fun s =>
  some (Out.nx (ρ := (List Int)) s)
def F__law_draws (v_script : (List Int)) : Option (List Int) := outF none (fb__law_draws (⟨v_script, [], 0, 0, 0, 0⟩ : S__law_draws))
@[reducible] def sa__law_draws (a : (List Int) × Unit) : Sl := [some (Mo.b, enc a.1), none, none, none, none, none]
@[reducible] def in__law_draws (a : (List Int) × Unit) : S__law_draws := ⟨a.1, [], 0, 0, 0, 0⟩
abbrev N__law_draws : List Str := ["script", "draws", "k", "rest", "turn", "mixed"]
abbrev s__law_draws : Stmt := topS 21
theorem sc__law_draws : FnScope N__law_draws ["script"] (defScope s__law_draws) := ⟨rfl, rfl, rfl, by decide +kernel, rfl, by decide +kernel, by decide +kernel⟩
theorem ok__law_draws (T : Top K mg) : FnOk P w K mg base CX0 1 T.a__law_draws T.d__law_draws ["script"] (spF K N__law_draws 1 sa__law_draws .f (fun a => F__law_draws a.1)) := by
  have nd := sc__law_draws.nd
  refine fn_v (slE := sl__law_draws_5) (fb := fun a => fb__law_draws (in__law_draws a)) none T.F__law_draws sc__law_draws rfl (fun _ h => nomatch h) (.inr ⟨rfl, rfl⟩) (fun _ => rfl) fun cdv A outer s H E hr => ?_
  exact (bv_wk (sl'' := sl__law_draws_5) (h := in__law_draws) (fun _ => Wk.refl _)
  (bv_cons (sl'' := sl__law_draws_4) (sv_own (i := 1) (fun (s : S__law_draws) t => { s with v_draws := t }) (fun _ _ => rfl) nd (pv_lst (pal_nil (τ := Int))))
  (bv_cons (sl'' := sl__law_draws_4) (sv_for (sl := sl__law_draws_4) PassesOwn.never (piv_range1 (by rfl) T.z_range (PV.ab (pv_min2 (by rfl) T.z_min (PV.ab pv_int) (PV.ab (pv_len (by rfl) T.z_len (pv_varb (i := 0) (fun s : S__law_draws => s.v_script) (fun _ => rfl))))))) (gv_name (i := 2) (slb := sl__law_draws_3) (set := (fun (s : S__law_draws) (t : Int) => { s with v_k := t })) (fun _ _ => rfl) nd)
  (bv_cons (sl'' := sl__law_draws_1) (sv_set (i := 3) (fun (s : S__law_draws) t => { s with v_rest := t }) (fun _ _ => rfl) nd (pv_abs (by rfl) T.z_abs (PV.ab (pv_ix (pv_varb (i := 0) (fun s : S__law_draws => s.v_script) (fun _ => rfl)) (PV.ab (pv_var (i := 2) (fun s : S__law_draws => s.v_k) (fun _ => rfl)))))))
  (bv_cons (sl'' := sl__law_draws_1) (sv_if (pb_cmp c_ge (PV.ab (pv_var (i := 3) (fun s : S__law_draws => s.v_rest) (fun _ => rfl))) (PV.ab (pv_pow (PV.ab pv_int) (PV.ab pv_int))))
  (bv_cons (sl'' := sl__law_draws_1) (sv_for (sl := sl__law_draws_1) PassesOwn.never (piv_range1 (by rfl) T.z_range (PV.ab pv_int)) (gv_name (i := 4) (slb := sl__law_draws_0) (set := (fun (s : S__law_draws) (t : Int) => { s with v_turn := t })) (fun _ _ => rfl) nd)
  (bv_cons (sl'' := sl__law_draws_0) (sv_if (pb_cmp c_gt (PV.ab (pv_var (i := 3) (fun s : S__law_draws => s.v_rest) (fun _ => rfl))) (PV.ab pv_int))
  (bv_cons (sl'' := sl__law_draws_0) (sv_app (i := 1) (fun s : S__law_draws => s.v_draws) (fun s t => { s with v_draws := t }) (fun _ => rfl) (fun _ _ => rfl) (pv_mod (PV.ab (pv_int1 (by rfl) T.z_int (PV.ab (pv_var (i := 3) (fun s : S__law_draws => s.v_rest) (fun _ => rfl))))) (PV.ab pv_int)))
  (bv_cons (sl'' := sl__law_draws_0) (sv_set (i := 3) (fun (s : S__law_draws) t => { s with v_rest := t }) (fun _ _ => rfl) nd (pv_div (PV.ab (pv_var (i := 3) (fun s : S__law_draws => s.v_rest) (fun _ => rfl))) (PV.ab pv_int)))
  (bv_nil (h := fun (s : S__law_draws) => (s : S__law_draws)) (fun _ => (.s (.s (.s (.s (.s (.s .nil))))))))))
  (bv_nil (h := fun (s : S__law_draws) => (s : S__law_draws)) (fun _ => (.s (.s (.s (.s (.s (.s .nil)))))))))
  (bv_nil (h := fun (s : S__law_draws) => ({ s with v_turn := 0 } : S__law_draws)) (fun _ => (.s (.s (.s (.s (.d (.s .nil))))))))))
  (bv_nil (h := fun (s : S__law_draws) => (s : S__law_draws)) (fun _ => (.s (.s (.s (.s (.s (.s .nil)))))))))
  (bv_cons (sl'' := sl__law_draws_2) (sv_set (i := 5) (fun (s : S__law_draws) t => { s with v_mixed := t }) (fun _ _ => rfl) nd (pv_mod (PV.ab (pv_int1 (by rfl) T.z_int (PV.ab (pv_add (PV.ab (pv_mul (PV.ab (pv_var (i := 3) (fun s : S__law_draws => s.v_rest) (fun _ => rfl))) (PV.ab pv_int))) (PV.ab (pv_mul (PV.ab (pv_add (PV.ab (pv_var (i := 2) (fun s : S__law_draws => s.v_k) (fun _ => rfl))) (PV.ab pv_int))) (PV.ab pv_int))))))) (PV.ab pv_int)))
  (bv_cons (sl'' := sl__law_draws_2) (sv_set (i := 5) (fun (s : S__law_draws) t => { s with v_mixed := t }) (fun _ _ => rfl) nd (pv_mod (PV.ab (pv_int1 (by rfl) T.z_int (PV.ab (pv_add (PV.ab (pv_add (PV.ab (pv_mul (PV.ab (pv_var (i := 5) (fun s : S__law_draws => s.v_mixed) (fun _ => rfl))) (PV.ab pv_int))) (PV.ab (pv_mul (PV.ab pv_int) (PV.ab (pv_var (i := 2) (fun s : S__law_draws => s.v_k) (fun _ => rfl))))))) (PV.ab pv_int))))) (PV.ab pv_int)))
  (bv_cons (sl'' := sl__law_draws_2) (sv_app (i := 1) (fun s : S__law_draws => s.v_draws) (fun s t => { s with v_draws := t }) (fun _ => rfl) (fun _ _ => rfl) (pv_mod (PV.ab (pv_int1 (by rfl) T.z_int (PV.ab (pv_var (i := 5) (fun s : S__law_draws => s.v_mixed) (fun _ => rfl))))) (PV.ab pv_int)))
  (bv_cons (sl'' := sl__law_draws_2) (sv_app (i := 1) (fun s : S__law_draws => s.v_draws) (fun s t => { s with v_draws := t }) (fun _ => rfl) (fun _ _ => rfl) (pv_mod (PV.ab (pv_int1 (by rfl) T.z_int (PV.ab (pv_div (PV.ab (pv_var (i := 5) (fun s : S__law_draws => s.v_mixed) (fun _ => rfl))) (PV.ab pv_int))))) (PV.ab pv_int)))
  (bv_nil (h := fun (s : S__law_draws) => ({ s with v_mixed := 0 } : S__law_draws)) (fun _ => (.s (.s (.s (.s (.s (.d .nil)))))))))))))
  (bv_nil (h := fun (s : S__law_draws) => ({ s with v_k := 0, v_rest := 0 } : S__law_draws)) (fun _ => (.s (.s (.d (.d (.s (.s .nil)))))))))))
  (bv_cons (sl'' := sl__law_draws_5) (sv_reto (i := 1) (fun s : S__law_draws => s.v_draws) (fun _ => rfl))
  (bv_nil (sl := sl__law_draws_5) (h := fun s => s) (fun _ => Wk.refl _))))))
/-! ## check_number -/
structure S_check_number where
  mk ::
  v_number : Int
  v_most : Int
@[reducible] def sl_check_number_0 (s : S_check_number) : Sl := (fun s : S_check_number => ([some (Mo.a, enc s.v_number), some (Mo.a, enc s.v_most)] : Sl)) s
def fb_check_number (s : S_check_number) : Option (Out S_check_number Unit) :=
  seqO ((((some (1 : Int)).bind fun x16 => (some s.v_number).bind fun x17 => (some (decide (x16 ≤ x17))).bind fun x19 => if x19 = true then (some s.v_most).bind fun x18 => some (decide (x17 ≤ x18)) else some false).bind fun x20 => some (!x20)).bind fun x21 => if x21 = true then
  (seqO (none) fun s =>
  some (Out.nx (ρ := Unit) s))
  else some (Out.nx (ρ := Unit) s)) fun s =>
  some (Out.nx (ρ := Unit) s)
def F_check_number (v_number : Int) (v_most : Int) : Option Unit := outF (some ()) (fb_check_number (⟨v_number, v_most⟩ : S_check_number))
@[reducible] def sa_check_number (a : Int × Int × Unit) : Sl := [some (Mo.a, enc a.1), some (Mo.a, enc a.2.1)]
@[reducible] def in_check_number (a : Int × Int × Unit) : S_check_number := ⟨a.1, a.2.1⟩
abbrev N_check_number : List Str := ["number", "most"]
abbrev s_check_number : Stmt := topS 8
theorem sc_check_number : FnScope N_check_number ["number", "most"] (defScope s_check_number) := ⟨rfl, rfl, rfl, by decide +kernel, rfl, by decide +kernel, by decide +kernel⟩
theorem ok_check_number (T : Top K mg) : FnOk P w K mg base CX0 1 T.a_check_number T.d_check_number ["number", "most"] (spF K N_check_number 2 sa_check_number .a (fun a => F_check_number a.1 a.2.1)) := by
  have nd := sc_check_number.nd
  refine fn_v (slE := sl_check_number_0) (fb := fun a => fb_check_number (in_check_number a)) (some ()) T.F_check_number sc_check_number rfl (fun _ h => by cases h; rfl) (.inl rfl) (fun _ => rfl) fun cdv A outer s H E hr => ?_
  exact (bv_wk (sl'' := sl_check_number_0) (h := in_check_number) (fun _ => Wk.refl _)
  (bv_cons (sl'' := sl_check_number_0) (sv_if (pb_not (pb_chain c_le c_le (PV.ab pv_int) (PV.ab (pv_var (i := 0) (fun s : S_check_number => s.v_number) (fun _ => rfl))) (PV.ab (pv_var (i := 1) (fun s : S_check_number => s.v_most) (fun _ => rfl)))))
  (bv_cons (sl'' := sl_check_number_0) sv_never
  (bv_nil (sl := sl_check_number_0) (h := fun s => s) (fun _ => Wk.refl _)))
  (bv_nil (h := fun (s : S_check_number) => (s : S_check_number)) (fun _ => (.s (.s .nil)))))
  (bv_nil (h := fun (s : S_check_number) => (s : S_check_number)) (fun _ => (.s (.s .nil))))))
/-! ## lean_row -/
structure S_lean_row where
  mk ::
  v_number : Int
  v_found : (List Int)
  v_rest : Int
  v_digit : Int
@[reducible] def sl_lean_row_0 (s : S_lean_row) : Sl := (fun s : S_lean_row => ([some (Mo.a, enc s.v_number), some (Mo.o, enc s.v_found), some (Mo.a, enc s.v_rest), some (Mo.a, enc s.v_digit)] : Sl)) s
@[reducible] def sl_lean_row_1 (s : S_lean_row) : Sl := (fun s : S_lean_row => ([some (Mo.a, enc s.v_number), some (Mo.o, enc s.v_found), some (Mo.a, enc s.v_rest), none] : Sl)) s
@[reducible] def sl_lean_row_2 (s : S_lean_row) : Sl := (fun s : S_lean_row => ([some (Mo.a, enc s.v_number), none, none, none] : Sl)) s
@[reducible] def sl_lean_row_3 (s : S_lean_row) : Sl := (fun s : S_lean_row => ([some (Mo.a, enc s.v_number), some (Mo.o, enc s.v_found), none, none] : Sl)) s
def lp_lean_row_0 (s : S_lean_row) : Option (Out S_lean_row (List Int)) :=
  seqO ((some (0 : Int)).bind fun x88 => some (Out.nx (ρ := (List Int)) { s with v_digit := x88 })) fun s =>
  seqO ((((some s.v_rest).bind fun x102 => (some (2 : Int)).bind fun x103 => iMod x102 x103).bind fun x104 => (some (1 : Int)).bind fun x105 => some (decide (x104 = x105))).bind fun x121 => if x121 = true then
  (seqO (((some (2 : Int)).bind fun x118 => ((some s.v_rest).bind fun x116 => (some (4 : Int)).bind fun x117 => iMod x116 x117).bind fun x119 => some (x118 - x119)).bind fun x120 => some (Out.nx (ρ := (List Int)) { s with v_digit := x120 })) fun s =>
  some (Out.nx (ρ := (List Int)) s))
  else some (Out.nx (ρ := (List Int)) s)) fun s =>
  seqO ((some s.v_digit).bind fun x126 => (push s.v_found x126).bind fun x127 => some (Out.nx (ρ := (List Int)) { s with v_found := x127 })) fun s =>
  seqO ((((some s.v_rest).bind fun x138 => (some s.v_digit).bind fun x139 => some (x138 - x139)).bind fun x140 => (some (2 : Int)).bind fun x141 => iDiv x140 x141).bind fun x142 => some (Out.nx (ρ := (List Int)) { s with v_rest := x142 })) fun s =>
  some (Out.nx (ρ := (List Int)) { s with v_digit := 0 })
def lc_lean_row_1 (s : S_lean_row) : Option Bool :=
  ((some s.v_rest).bind fun x80 => (some (0 : Int)).bind fun x81 => some (!decide (x80 = x81))).bind fun x85 => if x85 = true then some true else ((some s.v_found).bind fun x82 => some (x82.length : Int)).bind fun x83 => (some (0 : Int)).bind fun x84 => some (decide (x83 = x84))
def fb_lean_row (s : S_lean_row) : Option (Out S_lean_row (List Int)) :=
  seqO ((some ([] : List Int)).bind fun x30 => some (Out.nx (ρ := (List Int)) { s with v_found := x30 })) fun s =>
  seqO ((some s.v_number).bind fun x33 => some (Out.nx (ρ := (List Int)) { s with v_rest := x33 })) fun s =>
  seqO (whileO lc_lean_row_1 lp_lean_row_0 FUEL s) fun s =>
  seqO (((some s.v_found).bind fun x147 => some x147.reverse).bind fun x148 => some (Out.rt x148)) fun s =>
  some (Out.nx (ρ := (List Int)) s)
def F_lean_row (v_number : Int) : Option (List Int) := outF none (fb_lean_row (⟨v_number, [], 0, 0⟩ : S_lean_row))
@[reducible] def sa_lean_row (a : Int × Unit) : Sl := [some (Mo.a, enc a.1), none, none, none]
@[reducible] def in_lean_row (a : Int × Unit) : S_lean_row := ⟨a.1, [], 0, 0⟩
abbrev N_lean_row : List Str := ["number", "found", "rest", "digit"]
abbrev s_lean_row : Stmt := topS 4
theorem sc_lean_row : FnScope N_lean_row ["number"] (defScope s_lean_row) := ⟨rfl, rfl, rfl, by decide +kernel, rfl, by decide +kernel, by decide +kernel⟩
theorem ok_lean_row (T : Top K mg) : FnOk P w K mg base CX0 1 T.a_lean_row T.d_lean_row ["number"] (spF K N_lean_row 1 sa_lean_row .f (fun a => F_lean_row a.1)) := by
  have nd := sc_lean_row.nd
  refine fn_v (slE := sl_lean_row_2) (fb := fun a => fb_lean_row (in_lean_row a)) none T.F_lean_row sc_lean_row rfl (fun _ h => nomatch h) (.inr ⟨rfl, rfl⟩) (fun _ => rfl) fun cdv A outer s H E hr => ?_
  exact (bv_wk (sl'' := sl_lean_row_2) (h := in_lean_row) (fun _ => Wk.refl _)
  (bv_cons (sl'' := sl_lean_row_3) (sv_own (i := 1) (fun (s : S_lean_row) t => { s with v_found := t }) (fun _ _ => rfl) nd (pv_lst (pal_nil (τ := Int))))
  (bv_cons (sl'' := sl_lean_row_1) (sv_set (i := 2) (fun (s : S_lean_row) t => { s with v_rest := t }) (fun _ _ => rfl) nd (pv_var (i := 0) (fun s : S_lean_row => s.v_number) (fun _ => rfl)))
  (bv_cons (sl'' := sl_lean_row_1) (sv_while (sl := sl_lean_row_1) FUEL PassesOwn.never (PBw.pb (pb_or (pb_cmp c_neS (PV.ab (pv_var (i := 2) (fun s : S_lean_row => s.v_rest) (fun _ => rfl))) (PV.ab pv_int)) (pb_or1 (pb_cmp c_eqS (PV.ab (pv_len (by rfl) T.z_len (pv_varo (i := 1) (fun s : S_lean_row => s.v_found) (fun _ => rfl)))) (PV.ab pv_int)))))
  (bv_cons (sl'' := sl_lean_row_0) (sv_set (i := 3) (fun (s : S_lean_row) t => { s with v_digit := t }) (fun _ _ => rfl) nd pv_int)
  (bv_cons (sl'' := sl_lean_row_0) (sv_if (pb_cmp c_eqS (PV.ab (pv_mod (PV.ab (pv_var (i := 2) (fun s : S_lean_row => s.v_rest) (fun _ => rfl))) (PV.ab pv_int))) (PV.ab pv_int))
  (bv_cons (sl'' := sl_lean_row_0) (sv_set (i := 3) (fun (s : S_lean_row) t => { s with v_digit := t }) (fun _ _ => rfl) nd (pv_sub (PV.ab pv_int) (PV.ab (pv_mod (PV.ab (pv_var (i := 2) (fun s : S_lean_row => s.v_rest) (fun _ => rfl))) (PV.ab pv_int)))))
  (bv_nil (h := fun (s : S_lean_row) => (s : S_lean_row)) (fun _ => (.s (.s (.s (.s .nil)))))))
  (bv_nil (h := fun (s : S_lean_row) => (s : S_lean_row)) (fun _ => (.s (.s (.s (.s .nil)))))))
  (bv_cons (sl'' := sl_lean_row_0) (sv_app (i := 1) (fun s : S_lean_row => s.v_found) (fun s t => { s with v_found := t }) (fun _ => rfl) (fun _ _ => rfl) (pv_var (i := 3) (fun s : S_lean_row => s.v_digit) (fun _ => rfl)))
  (bv_cons (sl'' := sl_lean_row_0) (sv_set (i := 2) (fun (s : S_lean_row) t => { s with v_rest := t }) (fun _ _ => rfl) nd (pv_div (PV.ab (pv_sub (PV.ab (pv_var (i := 2) (fun s : S_lean_row => s.v_rest) (fun _ => rfl))) (PV.ab (pv_var (i := 3) (fun s : S_lean_row => s.v_digit) (fun _ => rfl))))) (PV.ab pv_int)))
  (bv_nil (h := fun (s : S_lean_row) => ({ s with v_digit := 0 } : S_lean_row)) (fun _ => (.s (.s (.s (.d .nil)))))))))))
  (bv_cons (sl'' := sl_lean_row_2) (sv_retf (pv_rev (pv_varo (i := 1) (fun s : S_lean_row => s.v_found) (fun _ => rfl))))
  (bv_nil (sl := sl_lean_row_2) (h := fun s => s) (fun _ => Wk.refl _)))))))
/-! ## shifts_of -/
structure S_shifts_of where
  mk ::
  v_number : Int
@[reducible] def sl_shifts_of_0 (s : S_shifts_of) : Sl := (fun s : S_shifts_of => ([some (Mo.a, enc s.v_number), none, none] : Sl)) s
def fb_shifts_of (s : S_shifts_of) : Option (Out S_shifts_of (List (T2 Int Int))) :=
  seqO (((((((some s.v_number).bind fun x37 => (some ()).bind fun x38 => some (x37, x38)).bind fun x39 => F_lean_row x39.1).bind fun x40 => some x40.reverse).bind fun x41 => some (x41.zipIdx.map fun q => T2.mk (q.2 : Int) q.1)).bind fun x46 => (lNew x46).bind fun x47 => compO (fun s : ((S_shifts_of × Int) × Int) => (some s.2).bind fun x42 => (some (0 : Int)).bind fun x43 => some (!decide (x42 = x43))) (fun s : ((S_shifts_of × Int) × Int) => (some s.1.2).bind fun x44 => (some s.2).bind fun x45 => some (T2.mk x44 x45)) (fun t : (T2 Int Int) => (((s, t.a), t.b) : ((S_shifts_of × Int) × Int))) x47).bind fun x48 => some (Out.rt x48)) fun s =>
  some (Out.nx (ρ := (List (T2 Int Int))) s)
def F_shifts_of (v_number : Int) : Option (List (T2 Int Int)) := outF none (fb_shifts_of (⟨v_number⟩ : S_shifts_of))
@[reducible] def sa_shifts_of (a : Int × Unit) : Sl := [some (Mo.a, enc a.1), none, none]
@[reducible] def in_shifts_of (a : Int × Unit) : S_shifts_of := ⟨a.1⟩
abbrev N_shifts_of : List Str := ["number", "place", "digit"]
abbrev s_shifts_of : Stmt := topS 15
theorem sc_shifts_of : FnScope N_shifts_of ["number"] (defScope s_shifts_of) := ⟨rfl, rfl, rfl, by decide +kernel, rfl, by decide +kernel, by decide +kernel⟩
theorem ok_shifts_of (T : Top K mg) : FnOk P w K mg base CX0 2 T.a_shifts_of T.d_shifts_of ["number"] (spF K N_shifts_of 1 sa_shifts_of .f (fun a => F_shifts_of a.1)) := by
  have nd := sc_shifts_of.nd
  refine fn_v (slE := sl_shifts_of_0) (fb := fun a => fb_shifts_of (in_shifts_of a)) none T.F_shifts_of sc_shifts_of rfl (fun _ h => nomatch h) (.inr ⟨rfl, rfl⟩) (fun _ => rfl) fun cdv A outer s H E hr => ?_
  exact (bv_wk (sl'' := sl_shifts_of_0) (h := in_shifts_of) (fun _ => Wk.refl _)
  (bv_cons (sl'' := sl_shifts_of_0) (sv_retf (pv_lc (own := [("place", 1), ("digit", 2)]) (js := [1, 2]) (slb := (fun s : ((S_shifts_of × Int) × Int) => ([some (Mo.a, enc s.1.1.v_number), some (Mo.a, enc s.1.2), some (Mo.a, enc s.2)] : Sl))) (set := fun (g : S_shifts_of) (t : (T2 Int Int)) => (((g, t.a), t.b) : ((S_shifts_of × Int) × Int))) nd (IV.ab (piv_enum (by rfl) T.z_enumerate (PV.fa (pv_rev (PV.fb (pv_callf (ok_lean_row T) (hr.mono (by decide)) (by rfl) T.m_lean_row T.F_lean_row.kp T.b_lean_row (av_a (pv_var (i := 0) (fun s : S_shifts_of => s.v_number) (fun _ => rfl)) av_nil) (fun _ => ⟨3, rfl, rfl⟩))))))) (blkOk_by (N := N_shifts_of) (sc := defScope s_shifts_of) (by decide +kernel)) (by decide) (fun _ _ _ _ _ => (gv_tup (fun t : (T2 Int Int) => [enc t.a, enc t.b]) (fun _ => rfl) (fun _ => rfl) (gvs_cons (p1 := fun t : (T2 Int Int) => t.a) (p2 := fun t : (T2 Int Int) => t) (gv_name (i := 1) (slb := (fun s : (S_shifts_of × Int) => ([some (Mo.a, enc s.1.v_number), some (Mo.a, enc s.2), none] : Sl))) (set := fun (g : S_shifts_of) (t : Int) => ((g, t) : (S_shifts_of × Int))) (fun _ _ => rfl) nd) (gvs_cons (p1 := fun t : (T2 Int Int) => t.b) (p2 := fun t : (T2 Int Int) => t) (gv_name (i := 2) (slb := (fun s : ((S_shifts_of × Int) × Int) => ([some (Mo.a, enc s.1.1.v_number), some (Mo.a, enc s.1.2), some (Mo.a, enc s.2)] : Sl))) (set := fun (g : (S_shifts_of × Int)) (t : Int) => ((g, t) : ((S_shifts_of × Int) × Int))) (fun _ _ => rfl) nd) gvs_nil)))) (fun _ _ _ _ _ => pbs_one (pb_cmp c_neS (PV.ab (pv_var (i := 2) (fun s : ((S_shifts_of × Int) × Int) => s.2) (fun _ => rfl))) (PV.ab pv_int))) (fun _ _ _ _ _ => (pv_tup2 (pv_var (i := 1) (fun s : ((S_shifts_of × Int) × Int) => s.1.2) (fun _ => rfl)) (pv_var (i := 2) (fun s : ((S_shifts_of × Int) × Int) => s.2) (fun _ => rfl))))))
  (bv_nil (sl := sl_shifts_of_0) (h := fun s => s) (fun _ => Wk.refl _))))
/-! ## shifts -/
structure S_shifts where
  mk ::
  v_number : Int
@[reducible] def sl_shifts_0 (s : S_shifts) : Sl := (fun s : S_shifts => ([some (Mo.a, enc s.v_number)] : Sl)) s
def fb_shifts (s : S_shifts) : Option (Out S_shifts (List (T2 Int Int))) :=
  seqO ((((some s.v_number).bind fun x20 => ((some (1000000 : Int)).bind fun x21 => (some ()).bind fun x22 => some (x21, x22)).bind fun x23 => some (x20, x23)).bind fun x24 => F_check_number x24.1 x24.2.1).bind fun _ => some (Out.nx (ρ := (List (T2 Int Int))) s)) fun s =>
  seqO ((((some s.v_number).bind fun x33 => (some ()).bind fun x34 => some (x33, x34)).bind fun x35 => F_shifts_of x35.1).bind fun x36 => some (Out.rt x36)) fun s =>
  some (Out.nx (ρ := (List (T2 Int Int))) s)
def F_shifts (v_number : Int) : Option (List (T2 Int Int)) := outF none (fb_shifts (⟨v_number⟩ : S_shifts))
@[reducible] def sa_shifts (a : Int × Unit) : Sl := [some (Mo.a, enc a.1)]
@[reducible] def in_shifts (a : Int × Unit) : S_shifts := ⟨a.1⟩
abbrev N_shifts : List Str := ["number"]
abbrev s_shifts : Stmt := topS 16
theorem sc_shifts : FnScope N_shifts ["number"] (defScope s_shifts) := ⟨rfl, rfl, rfl, by decide +kernel, rfl, by decide +kernel, by decide +kernel⟩
theorem ok_shifts (T : Top K mg) : FnOk P w K mg base CX0 3 T.a_shifts T.d_shifts ["number"] (spF K N_shifts 1 sa_shifts .f (fun a => F_shifts a.1)) := by
  have nd := sc_shifts.nd
  refine fn_v (slE := sl_shifts_0) (fb := fun a => fb_shifts (in_shifts a)) none T.F_shifts sc_shifts rfl (fun _ h => nomatch h) (.inr ⟨rfl, rfl⟩) (fun _ => rfl) fun cdv A outer s H E hr => ?_
  exact (bv_wk (sl'' := sl_shifts_0) (h := in_shifts) (fun _ => Wk.refl _)
  (bv_cons (sl'' := sl_shifts_0) (sv_expr (pv_calla (ok_check_number T) (hr.mono (by decide)) (by rfl) T.m_check_number T.F_check_number.kp T.b_check_number (av_a (pv_var (i := 0) (fun s : S_shifts => s.v_number) (fun _ => rfl)) (av_a (pv_gint (i := 1000000) (by rfl) T.c_MOST_BINARY.choose_spec ⟨_, rfl⟩) av_nil)) (fun _ => ⟨0, rfl, rfl⟩)))
  (bv_cons (sl'' := sl_shifts_0) (sv_retf (pv_callf (ok_shifts_of T) (hr.mono (by decide)) (by rfl) T.m_shifts_of T.F_shifts_of.kp T.b_shifts_of (av_a (pv_var (i := 0) (fun s : S_shifts => s.v_number) (fun _ => rfl)) av_nil) (fun _ => ⟨2, rfl, rfl⟩)))
  (bv_nil (sl := sl_shifts_0) (h := fun s => s) (fun _ => Wk.refl _)))))
/-! ## doubled -/
structure S_doubled where
  mk ::
  v_number : Int
  v_place : Int
  v__ : Int
@[reducible] def sl_doubled_0 (s : S_doubled) : Sl := (fun s : S_doubled => ([some (Mo.a, enc s.v_number), some (Mo.a, enc s.v_place), some (Mo.a, enc s.v__)] : Sl)) s
@[reducible] def sl_doubled_1 (s : S_doubled) : Sl := (fun s : S_doubled => ([some (Mo.a, enc s.v_number), some (Mo.a, enc s.v_place), none] : Sl)) s
def lp_doubled_0 (s : S_doubled) : Option (Out S_doubled Int) :=
  seqO (((some (2 : Int)).bind fun x22 => (some s.v_number).bind fun x23 => iMul x22 x23).bind fun x24 => some (Out.nx (ρ := Int) { s with v_number := x24 })) fun s =>
  some (Out.nx (ρ := Int) { s with v__ := 0 })
def fb_doubled (s : S_doubled) : Option (Out S_doubled Int) :=
  seqO (((some s.v_place).bind fun x15 => rng1 x15).bind fun x25 => forO (fun (s : S_doubled) (t : Int) => { s with v__ := t }) lp_doubled_0 x25 s) fun s =>
  seqO ((some s.v_number).bind fun x28 => some (Out.rt x28)) fun s =>
  some (Out.nx (ρ := Int) s)
def F_doubled (v_number : Int) (v_place : Int) : Option Int := outF none (fb_doubled (⟨v_number, v_place, 0⟩ : S_doubled))
@[reducible] def sa_doubled (a : Int × Int × Unit) : Sl := [some (Mo.a, enc a.1), some (Mo.a, enc a.2.1), none]
@[reducible] def in_doubled (a : Int × Int × Unit) : S_doubled := ⟨a.1, a.2.1, 0⟩
abbrev N_doubled : List Str := ["number", "place", "_"]
abbrev s_doubled : Stmt := topS 17
theorem sc_doubled : FnScope N_doubled ["number", "place"] (defScope s_doubled) := ⟨rfl, rfl, rfl, by decide +kernel, rfl, by decide +kernel, by decide +kernel⟩
theorem ok_doubled (T : Top K mg) : FnOk P w K mg base CX0 1 T.a_doubled T.d_doubled ["number", "place"] (spF K N_doubled 2 sa_doubled .a (fun a => F_doubled a.1 a.2.1)) := by
  have nd := sc_doubled.nd
  refine fn_v (slE := sl_doubled_1) (fb := fun a => fb_doubled (in_doubled a)) none T.F_doubled sc_doubled rfl (fun _ h => nomatch h) (.inl rfl) (fun _ => rfl) fun cdv A outer s H E hr => ?_
  exact (bv_wk (sl'' := sl_doubled_1) (h := in_doubled) (fun _ => Wk.refl _)
  (bv_cons (sl'' := sl_doubled_1) (sv_for (sl := sl_doubled_1) PassesOwn.never (piv_range1 (by rfl) T.z_range (PV.ab (pv_var (i := 1) (fun s : S_doubled => s.v_place) (fun _ => rfl)))) (gv_name (i := 2) (slb := sl_doubled_0) (set := (fun (s : S_doubled) (t : Int) => { s with v__ := t })) (fun _ _ => rfl) nd)
  (bv_cons (sl'' := sl_doubled_0) (sv_set (i := 0) (fun (s : S_doubled) t => { s with v_number := t }) (fun _ _ => rfl) nd (pv_mul (PV.ab pv_int) (PV.ab (pv_var (i := 0) (fun s : S_doubled => s.v_number) (fun _ => rfl)))))
  (bv_nil (h := fun (s : S_doubled) => ({ s with v__ := 0 } : S_doubled)) (fun _ => (.s (.s (.d .nil)))))))
  (bv_cons (sl'' := sl_doubled_1) (sv_ret (pv_var (i := 0) (fun s : S_doubled => s.v_number) (fun _ => rfl)))
  (bv_nil (sl := sl_doubled_1) (h := fun s => s) (fun _ => Wk.refl _)))))
/-! ## by_shifts -/
structure S_by_shifts where
  mk ::
  v_number : Int
  v_other : Int
@[reducible] def sl_by_shifts_0 (s : S_by_shifts) : Sl := (fun s : S_by_shifts => ([some (Mo.a, enc s.v_number), some (Mo.a, enc s.v_other), none, none] : Sl)) s
def fb_by_shifts (s : S_by_shifts) : Option (Out S_by_shifts (List Int)) :=
  seqO ((((some s.v_number).bind fun x29 => ((some (1000000 : Int)).bind fun x30 => (some ()).bind fun x31 => some (x30, x31)).bind fun x32 => some (x29, x32)).bind fun x33 => F_check_number x33.1 x33.2.1).bind fun _ => some (Out.nx (ρ := (List Int)) s)) fun s =>
  seqO (((((some s.v_number).bind fun x60 => (some ()).bind fun x61 => some (x60, x61)).bind fun x62 => F_shifts_of x62.1).bind fun x70 => (lNew x70).bind fun x71 => compO (fun s : ((S_by_shifts × Int) × Int) => some true) (fun s : ((S_by_shifts × Int) × Int) => (((some s.2).bind fun x63 => (some s.1.1.v_other).bind fun x64 => iMul x63 x64).bind fun x65 => ((some s.1.2).bind fun x66 => (some ()).bind fun x67 => some (x66, x67)).bind fun x68 => some (x65, x68)).bind fun x69 => F_doubled x69.1 x69.2.1) (fun t : (T2 Int Int) => (((s, t.a), t.b) : ((S_by_shifts × Int) × Int))) x71).bind fun x72 => some (Out.rt x72)) fun s =>
  some (Out.nx (ρ := (List Int)) s)
def F_by_shifts (v_number : Int) (v_other : Int) : Option (List Int) := outF none (fb_by_shifts (⟨v_number, v_other⟩ : S_by_shifts))
@[reducible] def sa_by_shifts (a : Int × Int × Unit) : Sl := [some (Mo.a, enc a.1), some (Mo.a, enc a.2.1), none, none]
@[reducible] def in_by_shifts (a : Int × Int × Unit) : S_by_shifts := ⟨a.1, a.2.1⟩
abbrev N_by_shifts : List Str := ["number", "other", "place", "sign"]
abbrev s_by_shifts : Stmt := topS 18
theorem sc_by_shifts : FnScope N_by_shifts ["number", "other"] (defScope s_by_shifts) := ⟨rfl, rfl, rfl, by decide +kernel, rfl, by decide +kernel, by decide +kernel⟩
theorem ok_by_shifts (T : Top K mg) : FnOk P w K mg base CX0 3 T.a_by_shifts T.d_by_shifts ["number", "other"] (spF K N_by_shifts 2 sa_by_shifts .f (fun a => F_by_shifts a.1 a.2.1)) := by
  have nd := sc_by_shifts.nd
  refine fn_v (slE := sl_by_shifts_0) (fb := fun a => fb_by_shifts (in_by_shifts a)) none T.F_by_shifts sc_by_shifts rfl (fun _ h => nomatch h) (.inr ⟨rfl, rfl⟩) (fun _ => rfl) fun cdv A outer s H E hr => ?_
  exact (bv_wk (sl'' := sl_by_shifts_0) (h := in_by_shifts) (fun _ => Wk.refl _)
  (bv_cons (sl'' := sl_by_shifts_0) (sv_expr (pv_calla (ok_check_number T) (hr.mono (by decide)) (by rfl) T.m_check_number T.F_check_number.kp T.b_check_number (av_a (pv_var (i := 0) (fun s : S_by_shifts => s.v_number) (fun _ => rfl)) (av_a (pv_gint (i := 1000000) (by rfl) T.c_MOST_BINARY.choose_spec ⟨_, rfl⟩) av_nil)) (fun _ => ⟨0, rfl, rfl⟩)))
  (bv_cons (sl'' := sl_by_shifts_0) (sv_retf (pv_lc (own := [("place", 2), ("sign", 3)]) (js := [2, 3]) (slb := (fun s : ((S_by_shifts × Int) × Int) => ([some (Mo.a, enc s.1.1.v_number), some (Mo.a, enc s.1.1.v_other), some (Mo.a, enc s.1.2), some (Mo.a, enc s.2)] : Sl))) (set := fun (g : S_by_shifts) (t : (T2 Int Int)) => (((g, t.a), t.b) : ((S_by_shifts × Int) × Int))) nd (IV.ab (piv_list (PV.fa (pv_callf (ok_shifts_of T) (hr.mono (by decide)) (by rfl) T.m_shifts_of T.F_shifts_of.kp T.b_shifts_of (av_a (pv_var (i := 0) (fun s : S_by_shifts => s.v_number) (fun _ => rfl)) av_nil) (fun _ => ⟨2, rfl, rfl⟩))))) (blkOk_by (N := N_by_shifts) (sc := defScope s_by_shifts) (by decide +kernel)) (by decide) (fun _ _ _ _ _ => (gv_tup (fun t : (T2 Int Int) => [enc t.a, enc t.b]) (fun _ => rfl) (fun _ => rfl) (gvs_cons (p1 := fun t : (T2 Int Int) => t.a) (p2 := fun t : (T2 Int Int) => t) (gv_name (i := 2) (slb := (fun s : (S_by_shifts × Int) => ([some (Mo.a, enc s.1.v_number), some (Mo.a, enc s.1.v_other), some (Mo.a, enc s.2), none] : Sl))) (set := fun (g : S_by_shifts) (t : Int) => ((g, t) : (S_by_shifts × Int))) (fun _ _ => rfl) nd) (gvs_cons (p1 := fun t : (T2 Int Int) => t.b) (p2 := fun t : (T2 Int Int) => t) (gv_name (i := 3) (slb := (fun s : ((S_by_shifts × Int) × Int) => ([some (Mo.a, enc s.1.1.v_number), some (Mo.a, enc s.1.1.v_other), some (Mo.a, enc s.1.2), some (Mo.a, enc s.2)] : Sl))) (set := fun (g : (S_by_shifts × Int)) (t : Int) => ((g, t) : ((S_by_shifts × Int) × Int))) (fun _ _ => rfl) nd) gvs_nil)))) (fun _ _ _ _ _ => pbs_nil) (fun _ _ _ _ _ => (pv_calla (ok_doubled T) (hr.mono (by decide)) (by rfl) T.m_doubled T.F_doubled.kp T.b_doubled (av_a (pv_mul (PV.ab (pv_var (i := 3) (fun s : ((S_by_shifts × Int) × Int) => s.2) (fun _ => rfl))) (PV.ab (pv_var (i := 1) (fun s : ((S_by_shifts × Int) × Int) => s.1.1.v_other) (fun _ => rfl)))) (av_a (pv_var (i := 2) (fun s : ((S_by_shifts × Int) × Int) => s.1.2) (fun _ => rfl)) av_nil)) (fun _ => ⟨1, rfl, rfl⟩)))))
  (bv_nil (sl := sl_by_shifts_0) (h := fun s => s) (fun _ => Wk.refl _)))))
/-! ## _law_mix -/
structure S__law_mix where
  mk ::
  v_draws : (List Int)
  v_k : Int
  v_many : Int
  v_cell : Int
@[reducible] def sl__law_mix_0 (s : S__law_mix) : Sl := (fun s : S__law_mix => ([some (Mo.b, enc s.v_draws), some (Mo.a, enc s.v_k), some (Mo.a, enc s.v_many), some (Mo.a, enc s.v_cell)] : Sl)) s
@[reducible] def sl__law_mix_1 (s : S__law_mix) : Sl := (fun s : S__law_mix => ([some (Mo.b, enc s.v_draws), some (Mo.a, enc s.v_k), some (Mo.a, enc s.v_many), none] : Sl)) s
def fb__law_mix (s : S__law_mix) : Option (Out S__law_mix Int) :=
  seqO ((some (0 : Int)).bind fun x34 => some (Out.nx (ρ := Int) { s with v_cell := x34 })) fun s =>
  seqO ((((some s.v_draws).bind fun x48 => some (x48.length : Int)).bind fun x49 => (some (0 : Int)).bind fun x50 => some (decide (x49 > x50))).bind fun x72 => if x72 = true then
  (seqO (((some s.v_draws).bind fun x69 => (((some s.v_k).bind fun x65 => some x65).bind fun x67 => ((some s.v_draws).bind fun x66 => some (x66.length : Int)).bind fun x68 => iMod x67 x68).bind fun x70 => atI x69 x70).bind fun x71 => some (Out.nx (ρ := Int) { s with v_cell := x71 })) fun s =>
  some (Out.nx (ρ := Int) s))
  else some (Out.nx (ρ := Int) s)) fun s =>
  seqO (((some s.v_k).bind fun x84 => ((some s.v_draws).bind fun x83 => some (x83.length : Int)).bind fun x85 => some (decide (x84 < x85))).bind fun x98 => if x98 = true then
  (seqO ((((some s.v_cell).bind fun x94 => some x94).bind fun x95 => (some s.v_many).bind fun x96 => iMod x95 x96).bind fun x97 => some (Out.rt x97)) fun s =>
  some (Out.nx (ρ := Int) s))
  else some (Out.nx (ρ := Int) s)) fun s =>
  seqO ((((((((some s.v_cell).bind fun x125 => (some (7919 : Int)).bind fun x126 => iMul x125 x126).bind fun x129 => ((some s.v_k).bind fun x127 => (some (104729 : Int)).bind fun x128 => iMul x127 x128).bind fun x130 => some (x129 + x130)).bind fun x131 => some x131).bind fun x132 => (some (3 : Int)).bind fun x133 => iDiv x132 x133).bind fun x134 => some x134).bind fun x135 => (some s.v_many).bind fun x136 => iMod x135 x136).bind fun x137 => some (Out.rt x137)) fun s =>
  some (Out.nx (ρ := Int) s)
def F__law_mix (v_draws : (List Int)) (v_k : Int) (v_many : Int) : Option Int := outF none (fb__law_mix (⟨v_draws, v_k, v_many, 0⟩ : S__law_mix))
@[reducible] def sa__law_mix (a : (List Int) × Int × Int × Unit) : Sl := [some (Mo.b, enc a.1), some (Mo.a, enc a.2.1), some (Mo.a, enc a.2.2.1), none]
@[reducible] def in__law_mix (a : (List Int) × Int × Int × Unit) : S__law_mix := ⟨a.1, a.2.1, a.2.2.1, 0⟩
abbrev N__law_mix : List Str := ["draws", "k", "many", "cell"]
abbrev s__law_mix : Stmt := topS 22
theorem sc__law_mix : FnScope N__law_mix ["draws", "k", "many"] (defScope s__law_mix) := ⟨rfl, rfl, rfl, by decide +kernel, rfl, by decide +kernel, by decide +kernel⟩
theorem ok__law_mix (T : Top K mg) : FnOk P w K mg base CX0 1 T.a__law_mix T.d__law_mix ["draws", "k", "many"] (spF K N__law_mix 3 sa__law_mix .a (fun a => F__law_mix a.1 a.2.1 a.2.2.1)) := by
  have nd := sc__law_mix.nd
  refine fn_v (slE := sl__law_mix_1) (fb := fun a => fb__law_mix (in__law_mix a)) none T.F__law_mix sc__law_mix rfl (fun _ h => nomatch h) (.inl rfl) (fun _ => rfl) fun cdv A outer s H E hr => ?_
  exact (bv_wk (sl'' := sl__law_mix_1) (h := in__law_mix) (fun _ => Wk.refl _)
  (bv_cons (sl'' := sl__law_mix_0) (sv_set (i := 3) (fun (s : S__law_mix) t => { s with v_cell := t }) (fun _ _ => rfl) nd pv_int)
  (bv_cons (sl'' := sl__law_mix_0) (sv_if (pb_cmp c_gt (PV.ab (pv_len (by rfl) T.z_len (pv_varb (i := 0) (fun s : S__law_mix => s.v_draws) (fun _ => rfl)))) (PV.ab pv_int))
  (bv_cons (sl'' := sl__law_mix_0) (sv_set (i := 3) (fun (s : S__law_mix) t => { s with v_cell := t }) (fun _ _ => rfl) nd (pv_ix (pv_varb (i := 0) (fun s : S__law_mix => s.v_draws) (fun _ => rfl)) (PV.ab (pv_mod (PV.ab (pv_int1 (by rfl) T.z_int (PV.ab (pv_var (i := 1) (fun s : S__law_mix => s.v_k) (fun _ => rfl))))) (PV.ab (pv_len (by rfl) T.z_len (pv_varb (i := 0) (fun s : S__law_mix => s.v_draws) (fun _ => rfl))))))))
  (bv_nil (h := fun (s : S__law_mix) => (s : S__law_mix)) (fun _ => (.s (.s (.s (.s .nil)))))))
  (bv_nil (h := fun (s : S__law_mix) => (s : S__law_mix)) (fun _ => (.s (.s (.s (.s .nil)))))))
  (bv_cons (sl'' := sl__law_mix_0) (sv_if (pb_cmp c_lt (PV.ab (pv_var (i := 1) (fun s : S__law_mix => s.v_k) (fun _ => rfl))) (PV.ab (pv_len (by rfl) T.z_len (pv_varb (i := 0) (fun s : S__law_mix => s.v_draws) (fun _ => rfl)))))
  (bv_cons (sl'' := sl__law_mix_0) (sv_ret (pv_mod (PV.ab (pv_int1 (by rfl) T.z_int (PV.ab (pv_var (i := 3) (fun s : S__law_mix => s.v_cell) (fun _ => rfl))))) (PV.ab (pv_var (i := 2) (fun s : S__law_mix => s.v_many) (fun _ => rfl)))))
  (bv_nil (sl := sl__law_mix_0) (h := fun s => s) (fun _ => Wk.refl _)))
  (bv_nil (h := fun (s : S__law_mix) => (s : S__law_mix)) (fun _ => (.s (.s (.s (.s .nil)))))))
  (bv_cons (sl'' := sl__law_mix_1) (sv_ret (pv_mod (PV.ab (pv_int1 (by rfl) T.z_int (PV.ab (pv_div (PV.ab (pv_int1 (by rfl) T.z_int (PV.ab (pv_add (PV.ab (pv_mul (PV.ab (pv_var (i := 3) (fun s : S__law_mix => s.v_cell) (fun _ => rfl))) (PV.ab pv_int))) (PV.ab (pv_mul (PV.ab (pv_var (i := 1) (fun s : S__law_mix => s.v_k) (fun _ => rfl))) (PV.ab pv_int))))))) (PV.ab pv_int))))) (PV.ab (pv_var (i := 2) (fun s : S__law_mix => s.v_many) (fun _ => rfl)))))
  (bv_nil (sl := sl__law_mix_1) (h := fun s => s) (fun _ => Wk.refl _)))))))
/-! ## next_of -/
structure S_next_of where
  mk ::
  v_told : (List Int)
  v_number : Int
  v_steps : Int
  v_most : Int
  v__ : Int
  v_found : (List Int)
@[reducible] def sl_next_of_0 (s : S_next_of) : Sl := (fun s : S_next_of => ([some (Mo.b, enc s.v_told), some (Mo.a, enc s.v_number), some (Mo.a, enc s.v_steps), some (Mo.a, enc s.v_most), some (Mo.a, enc s.v__), none, none, none] : Sl)) s
@[reducible] def sl_next_of_1 (s : S_next_of) : Sl := (fun s : S_next_of => ([some (Mo.b, enc s.v_told), some (Mo.a, enc s.v_number), some (Mo.a, enc s.v_steps), some (Mo.a, enc s.v_most), none, none, none, none] : Sl)) s
@[reducible] def sl_next_of_2 (s : S_next_of) : Sl := (fun s : S_next_of => ([some (Mo.b, enc s.v_told), some (Mo.a, enc s.v_number), some (Mo.a, enc s.v_steps), none, none, none, none, none] : Sl)) s
@[reducible] def sl_next_of_3 (s : S_next_of) : Sl := (fun s : S_next_of => ([some (Mo.b, enc s.v_told), some (Mo.a, enc s.v_number), some (Mo.a, enc s.v_steps), some (Mo.a, enc s.v_most), none, some (Mo.a, enc s.v_found), none, none] : Sl)) s
def lp_next_of_0 (s : S_next_of) : Option (Out S_next_of (List Int)) :=
  seqO (((((some s.v_most).bind fun x66 => some (-x66)).bind fun x67 => (some (2 : Int)).bind fun x68 => iDiv x67 x68).bind fun x69 => some (-x69)).bind fun x70 => some (Out.nx (ρ := (List Int)) { s with v_most := x70 })) fun s =>
  some (Out.nx (ρ := (List Int)) { s with v__ := 0 })
def fb_next_of (s : S_next_of) : Option (Out S_next_of (List Int)) :=
  seqO ((some s.v_number).bind fun x33 => some (Out.nx (ρ := (List Int)) { s with v_most := x33 })) fun s =>
  seqO ((((some s.v_steps).bind fun x53 => (some (1 : Int)).bind fun x54 => some (x53 - x54)).bind fun x55 => rng1 x55).bind fun x71 => forO (fun (s : S_next_of) (t : Int) => { s with v__ := t }) lp_next_of_0 x71 s) fun s =>
  seqO (((((some s.v_told).bind fun x116 => compO2 (fun s : (S_next_of × Int) => some true) (fun s : (S_next_of × Int) => some s.1.v_told) (fun s : ((S_next_of × Int) × Int) => ((some s.1.1.v_told).bind fun x105 => ((some (1 : Int)).bind fun x104 => some (-x104)).bind fun x106 => atI x105 x106).bind fun x109 => ((some s.1.2).bind fun x107 => (some s.2).bind fun x108 => some (x107 + x108)).bind fun x110 => (some (decide (x109 < x110))).bind fun x112 => if x112 = true then (some s.1.1.v_number).bind fun x111 => some (decide (x110 ≤ x111)) else some false) (fun s : ((S_next_of × Int) × Int) => (some s.1.2).bind fun x113 => (some s.2).bind fun x114 => some (x113 + x114)) (fun (t : Int) => ((s, t) : (S_next_of × Int))) (fun (g : (S_next_of × Int)) (t : Int) => ((g, t) : ((S_next_of × Int) × Int))) x116).bind fun x117 => lNew x117).bind fun x118 => srtSet x118).bind fun x119 => some (Out.nx (ρ := (List Int)) { s with v_found := x119 })) fun s =>
  seqO (((some s.v_found).bind fun x132 => (lNew x132).bind fun x133 => compO (fun s : (S_next_of × Int) => (some s.2).bind fun x130 => (some s.1.v_most).bind fun x131 => some (decide (x130 ≥ x131))) (fun s : (S_next_of × Int) => some s.2) (fun t : Int => ((s, t) : (S_next_of × Int))) x133).bind fun x134 => some (Out.rt x134)) fun s =>
  some (Out.nx (ρ := (List Int)) s)
def F_next_of (v_told : (List Int)) (v_number : Int) (v_steps : Int) : Option (List Int) := outF none (fb_next_of (⟨v_told, v_number, v_steps, 0, 0, []⟩ : S_next_of))
@[reducible] def sa_next_of (a : (List Int) × Int × Int × Unit) : Sl := [some (Mo.b, enc a.1), some (Mo.a, enc a.2.1), some (Mo.a, enc a.2.2.1), none, none, none, none, none]
@[reducible] def in_next_of (a : (List Int) × Int × Int × Unit) : S_next_of := ⟨a.1, a.2.1, a.2.2.1, 0, 0, []⟩
abbrev N_next_of : List Str := ["told", "number", "steps", "most", "_", "found", "one", "two"]
abbrev s_next_of : Stmt := topS 9
theorem sc_next_of : FnScope N_next_of ["told", "number", "steps"] (defScope s_next_of) := ⟨rfl, rfl, rfl, by decide +kernel, rfl, by decide +kernel, by decide +kernel⟩
theorem ok_next_of (T : Top K mg) : FnOk P w K mg base CX0 1 T.a_next_of T.d_next_of ["told", "number", "steps"] (spF K N_next_of 3 sa_next_of .f (fun a => F_next_of a.1 a.2.1 a.2.2.1)) := by
  have nd := sc_next_of.nd
  refine fn_v (slE := sl_next_of_2) (fb := fun a => fb_next_of (in_next_of a)) none T.F_next_of sc_next_of rfl (fun _ h => nomatch h) (.inr ⟨rfl, rfl⟩) (fun _ => rfl) fun cdv A outer s H E hr => ?_
  exact (bv_wk (sl'' := sl_next_of_2) (h := in_next_of) (fun _ => Wk.refl _)
  (bv_cons (sl'' := sl_next_of_1) (sv_set (i := 3) (fun (s : S_next_of) t => { s with v_most := t }) (fun _ _ => rfl) nd (pv_var (i := 1) (fun s : S_next_of => s.v_number) (fun _ => rfl)))
  (bv_cons (sl'' := sl_next_of_1) (sv_for (sl := sl_next_of_1) PassesOwn.never (piv_range1 (by rfl) T.z_range (PV.ab (pv_sub (PV.ab (pv_var (i := 2) (fun s : S_next_of => s.v_steps) (fun _ => rfl))) (PV.ab pv_int)))) (gv_name (i := 4) (slb := sl_next_of_0) (set := (fun (s : S_next_of) (t : Int) => { s with v__ := t })) (fun _ _ => rfl) nd)
  (bv_cons (sl'' := sl_next_of_0) (sv_set (i := 3) (fun (s : S_next_of) t => { s with v_most := t }) (fun _ _ => rfl) nd (pv_neg (PV.ab (pv_div (PV.ab (pv_neg (PV.ab (pv_var (i := 3) (fun s : S_next_of => s.v_most) (fun _ => rfl))))) (PV.ab pv_int)))))
  (bv_nil (h := fun (s : S_next_of) => ({ s with v__ := 0 } : S_next_of)) (fun _ => (.s (.s (.s (.s (.d (.s (.s (.s .nil))))))))))))
  (bv_cons (sl'' := sl_next_of_3) (sv_set (i := 5) (fun (s : S_next_of) t => { s with v_found := t }) (fun _ _ => rfl) nd (PV.fa (pv_srtset (by rfl) (by rfl) T.z_sorted (by rfl) T.z_set (PV.fb (pv_lc2 (own := [("one", 6), ("two", 7)]) (vs1 := [7]) (js := [6]) (js1 := [7]) (slb := (fun s : (S_next_of × Int) => ([some (Mo.b, enc s.1.v_told), some (Mo.a, enc s.1.v_number), some (Mo.a, enc s.1.v_steps), some (Mo.a, enc s.1.v_most), none, none, some (Mo.a, enc s.2), none] : Sl))) (slc := (fun s : ((S_next_of × Int) × Int) => ([some (Mo.b, enc s.1.1.v_told), some (Mo.a, enc s.1.1.v_number), some (Mo.a, enc s.1.1.v_steps), some (Mo.a, enc s.1.1.v_most), none, none, some (Mo.a, enc s.1.2), some (Mo.a, enc s.2)] : Sl))) (set := fun (g : S_next_of) (t : Int) => ((g, t) : (S_next_of × Int))) (set1 := fun (g : (S_next_of × Int)) (t : Int) => ((g, t) : ((S_next_of × Int) × Int))) nd (piv_listb (pv_varb (i := 0) (fun s : S_next_of => s.v_told) (fun _ => rfl))) (blkOk_by (N := N_next_of) (sc := defScope s_next_of) (by decide +kernel)) (by decide) (by decide) (by decide) (fun _ => rfl) (fun _ _ _ _ _ => (gv_name (i := 6) (fun _ _ => rfl) nd)) (fun _ _ _ _ _ => pbs_nil) (fun _ _ _ _ _ => (piv_varb (i := 0) (fun s : (S_next_of × Int) => s.1.v_told) (fun _ => rfl))) (fun _ _ _ _ _ => (gv_name (i := 7) (fun _ _ => rfl) nd)) (fun _ _ _ _ _ => pbs_one (pb_chain c_lt c_le (PV.ab (pv_ix (pv_varb (i := 0) (fun s : ((S_next_of × Int) × Int) => s.1.1.v_told) (fun _ => rfl)) (PV.ab (pv_neg (PV.ab pv_int))))) (PV.ab (pv_add (PV.ab (pv_var (i := 6) (fun s : ((S_next_of × Int) × Int) => s.1.2) (fun _ => rfl))) (PV.ab (pv_var (i := 7) (fun s : ((S_next_of × Int) × Int) => s.2) (fun _ => rfl))))) (PV.ab (pv_var (i := 1) (fun s : ((S_next_of × Int) × Int) => s.1.1.v_number) (fun _ => rfl))))) (fun _ _ _ _ _ => (pv_add (PV.ab (pv_var (i := 6) (fun s : ((S_next_of × Int) × Int) => s.1.2) (fun _ => rfl))) (PV.ab (pv_var (i := 7) (fun s : ((S_next_of × Int) × Int) => s.2) (fun _ => rfl))))))))))
  (bv_cons (sl'' := sl_next_of_2) (sv_retf (pv_lc (own := [("one", 6)]) (js := [6]) (slb := (fun s : (S_next_of × Int) => ([some (Mo.b, enc s.1.v_told), some (Mo.a, enc s.1.v_number), some (Mo.a, enc s.1.v_steps), some (Mo.a, enc s.1.v_most), none, some (Mo.a, enc s.1.v_found), some (Mo.a, enc s.2), none] : Sl))) (set := fun (g : S_next_of) (t : Int) => ((g, t) : (S_next_of × Int))) nd (IV.ab (piv_list (pv_var (i := 5) (fun s : S_next_of => s.v_found) (fun _ => rfl)))) (blkOk_by (N := N_next_of) (sc := defScope s_next_of) (by decide +kernel)) (by decide) (fun _ _ _ _ _ => (gv_name (i := 6) (fun _ _ => rfl) nd)) (fun _ _ _ _ _ => pbs_one (pb_cmp c_ge (PV.ab (pv_var (i := 6) (fun s : (S_next_of × Int) => s.2) (fun _ => rfl))) (PV.ab (pv_var (i := 3) (fun s : (S_next_of × Int) => s.1.v_most) (fun _ => rfl))))) (fun _ _ _ _ _ => (pv_var (i := 6) (fun s : (S_next_of × Int) => s.2) (fun _ => rfl)))))
  (bv_nil (sl := sl_next_of_2) (h := fun s => s) (fun _ => Wk.refl _)))))))
/-! ## gone_on -/
structure S_gone_on where
  mk ::
  v_told : (List Int)
  v_number : Int
  v_steps : Int
  v_one : Int
  v_found : (Option (List Int))
@[reducible] def sl_gone_on_0 (s : S_gone_on) : Sl := (fun s : S_gone_on => ([some (Mo.a, enc s.v_told), some (Mo.a, enc s.v_number), some (Mo.a, enc s.v_steps), none, none] : Sl)) s
@[reducible] def sl_gone_on_1 (s : S_gone_on) : Sl := (fun s : S_gone_on => ([some (Mo.a, enc s.v_told), some (Mo.a, enc s.v_number), some (Mo.a, enc s.v_steps), some (Mo.a, enc s.v_one), some (Mo.a, enc s.v_found)] : Sl)) s
@[reducible] def sl_gone_on_2 (s : S_gone_on) : Sl := (fun s : S_gone_on => ([some (Mo.a, enc s.v_told), some (Mo.a, enc s.v_number), some (Mo.a, enc s.v_steps), some (Mo.a, enc s.v_one), none] : Sl)) s
def lp_gone_on_0 (R : (List Int) → Int → Int → Option (Option (List Int))) (s : S_gone_on) : Option (Out S_gone_on (Option (List Int))) :=
  seqO ((((((some s.v_told).bind fun x172 => ((some s.v_one).bind fun x170 => (some ([] : List Int)).bind fun x171 => some (x170 :: x171)).bind fun x173 => some (x172 ++ x173)).bind fun x174 => lNew x174).bind fun x177 => ((some s.v_number).bind fun x178 => (((some s.v_steps).bind fun x175 => (some (1 : Int)).bind fun x176 => some (x175 - x176)).bind fun x179 => (some ()).bind fun x180 => some (x179, x180)).bind fun x181 => some (x178, x181)).bind fun x182 => some (x177, x182)).bind fun x183 => R x183.1 x183.2.1 x183.2.2.1).bind fun x184 => some (Out.nx (ρ := (Option (List Int))) { s with v_found := x184 })) fun s =>
  seqO (((some s.v_found).bind fun x190 => (some ()).bind fun x191 => some (!x190.isNone)).bind fun x195 => if x195 = true then
  (seqO ((some s.v_found).bind fun x194 => some (Out.rt x194)) fun s =>
  some (Out.nx (ρ := (Option (List Int))) s))
  else some (Out.nx (ρ := (Option (List Int))) s)) fun s =>
  some (Out.nx (ρ := (Option (List Int))) { s with v_one := 0, v_found := none })
def fb_gone_on (R : (List Int) → Int → Int → Option (Option (List Int))) (s : S_gone_on) : Option (Out S_gone_on (Option (List Int))) :=
  seqO (((some s.v_steps).bind fun x49 => (some (0 : Int)).bind fun x50 => some (decide (x49 = x50))).bind fun x75 => if x75 = true then
  (seqO (((((some s.v_told).bind fun x68 => ((some (1 : Int)).bind fun x67 => some (-x67)).bind fun x69 => atI x68 x69).bind fun x70 => (some s.v_number).bind fun x71 => some (decide (x70 = x71))).bind fun x73 => if x73 = true then (some s.v_told).bind fun x72 => some (some x72) else some (none : Option (List Int))).bind fun x74 => some (Out.rt x74)) fun s =>
  some (Out.nx (ρ := (Option (List Int))) s))
  else some (Out.nx (ρ := (Option (List Int))) s)) fun s =>
  seqO ((((some s.v_told).bind fun x133 => ((some s.v_number).bind fun x134 => ((some s.v_steps).bind fun x135 => (some ()).bind fun x136 => some (x135, x136)).bind fun x137 => some (x134, x137)).bind fun x138 => some (x133, x138)).bind fun x139 => F_next_of x139.1 x139.2.1 x139.2.2.1).bind fun x196 => forO (fun (s : S_gone_on) (t : Int) => { s with v_one := t }) (lp_gone_on_0 R) x196 s) fun s =>
  seqO ((some (none : Option (List Int))).bind fun x199 => some (Out.rt x199)) fun s =>
  some (Out.nx (ρ := (Option (List Int))) s)
def F_gone_on : Nat → (List Int) → Int → Int → Option (Option (List Int))
  | 0 => fun _ _ _ => none
  | n + 1 => fun v_told v_number v_steps => outF none (fb_gone_on (F_gone_on n) ⟨v_told, v_number, v_steps, 0, none⟩)
@[reducible] def sa_gone_on (a : (List Int) × Int × Int × Unit) : Sl := [some (Mo.a, enc a.1), some (Mo.a, enc a.2.1), some (Mo.a, enc a.2.2.1), none, none]
@[reducible] def in_gone_on (a : (List Int) × Int × Int × Unit) : S_gone_on := ⟨a.1, a.2.1, a.2.2.1, 0, none⟩
abbrev N_gone_on : List Str := ["told", "number", "steps", "one", "found"]
abbrev s_gone_on : Stmt := topS 10
theorem sc_gone_on : FnScope N_gone_on ["told", "number", "steps"] (defScope s_gone_on) := ⟨rfl, rfl, rfl, by decide +kernel, rfl, by decide +kernel, by decide +kernel⟩
theorem ok_gone_on (T : Top K mg) : ∀ n : Nat, FnOk P w K mg base CX0 (1 + n) T.a_gone_on T.d_gone_on ["told", "number", "steps"] (spF K N_gone_on 3 sa_gone_on .a (fun a => F_gone_on n a.1 a.2.1 a.2.2.1))
  | 0 => fn_none
  | n + 1 => by
    have IH := ok_gone_on T n
    have nd := sc_gone_on.nd
    refine fn_v (slE := sl_gone_on_0) (fb := fun a => fb_gone_on (F_gone_on n) (in_gone_on a)) none T.F_gone_on sc_gone_on rfl (fun _ h => nomatch h) (.inl rfl) (fun _ => rfl) fun cdv A outer s H E hr => ?_
    exact (bv_wk (sl'' := sl_gone_on_0) (h := in_gone_on) (fun _ => Wk.refl _)
  (bv_cons (sl'' := sl_gone_on_0) (sv_if (pb_cmp c_eqS (PV.ab (pv_var (i := 2) (fun s : S_gone_on => s.v_steps) (fun _ => rfl))) (PV.ab pv_int))
  (bv_cons (sl'' := sl_gone_on_0) (sv_ret (pv_if (pb_cmp c_eqS (PV.ab (pv_ix (PV.ab (pv_var (i := 0) (fun s : S_gone_on => s.v_told) (fun _ => rfl))) (PV.ab (pv_neg (PV.ab pv_int))))) (PV.ab (pv_var (i := 1) (fun s : S_gone_on => s.v_number) (fun _ => rfl)))) (PV.opt (pv_var (i := 0) (fun s : S_gone_on => s.v_told) (fun _ => rfl))) (pv_noneO (τ := (List Int)))))
  (bv_nil (sl := sl_gone_on_0) (h := fun s => s) (fun _ => Wk.refl _)))
  (bv_nil (h := fun (s : S_gone_on) => (s : S_gone_on)) (fun _ => (.s (.s (.s (.s (.s .nil))))))))
  (bv_cons (sl'' := sl_gone_on_0) (sv_for (sl := sl_gone_on_0) PassesOwn.never (piv_list (PV.fa (pv_callf (ok_next_of T) (hr.mono (Nat.le_trans (by decide) (Nat.le_add_right _ _))) (by rfl) T.m_next_of T.F_next_of.kp T.b_next_of (av_b (PV.ab (pv_var (i := 0) (fun s : S_gone_on => s.v_told) (fun _ => rfl))) (av_a (pv_var (i := 1) (fun s : S_gone_on => s.v_number) (fun _ => rfl)) (av_a (pv_var (i := 2) (fun s : S_gone_on => s.v_steps) (fun _ => rfl)) av_nil))) (fun _ => ⟨5, rfl, rfl⟩)))) (gv_name (i := 3) (slb := sl_gone_on_2) (set := (fun (s : S_gone_on) (t : Int) => { s with v_one := t })) (fun _ _ => rfl) nd)
  (bv_cons (sl'' := sl_gone_on_1) (sv_set (i := 4) (fun (s : S_gone_on) t => { s with v_found := t }) (fun _ _ => rfl) nd (pv_calla IH hr (by rfl) T.m_gone_on T.F_gone_on.kp T.b_gone_on (av_a (PV.fa (pv_lstS (pas_star (PV.ab (pv_var (i := 0) (fun s : S_gone_on => s.v_told) (fun _ => rfl))) (pas_cons (pv_var (i := 3) (fun s : S_gone_on => s.v_one) (fun _ => rfl)) (pas_nil (τ := Int)))))) (av_a (pv_var (i := 1) (fun s : S_gone_on => s.v_number) (fun _ => rfl)) (av_a (pv_sub (PV.ab (pv_var (i := 2) (fun s : S_gone_on => s.v_steps) (fun _ => rfl))) (PV.ab pv_int)) av_nil))) (fun _ => ⟨2, rfl, rfl⟩)))
  (bv_cons (sl'' := sl_gone_on_1) (sv_if (pb_cmp c_isnt (PV.ab (pv_var (i := 4) (fun s : S_gone_on => s.v_found) (fun _ => rfl))) (PV.ab pv_none))
  (bv_cons (sl'' := sl_gone_on_1) (sv_ret (pv_var (i := 4) (fun s : S_gone_on => s.v_found) (fun _ => rfl)))
  (bv_nil (sl := sl_gone_on_1) (h := fun s => s) (fun _ => Wk.refl _)))
  (bv_nil (h := fun (s : S_gone_on) => (s : S_gone_on)) (fun _ => (.s (.s (.s (.s (.s .nil))))))))
  (bv_nil (h := fun (s : S_gone_on) => ({ s with v_one := 0, v_found := none } : S_gone_on)) (fun _ => (.s (.s (.s (.d (.d .nil))))))))))
  (bv_cons (sl'' := sl_gone_on_0) (sv_ret (pv_noneO (τ := (List Int))))
  (bv_nil (sl := sl_gone_on_0) (h := fun s => s) (fun _ => Wk.refl _))))))
@[irreducible] def G_gone_on (v_told : (List Int)) (v_number : Int) (v_steps : Int) : Option (Option (List Int)) := F_gone_on 40 v_told v_number v_steps
theorem okG_gone_on (T : Top K mg) : FnOk P w K mg base CX0 (1 + 40) T.a_gone_on T.d_gone_on ["told", "number", "steps"] (spF K N_gone_on 3 sa_gone_on .a (fun a => G_gone_on a.1 a.2.1 a.2.2.1)) := by
  have h := ok_gone_on (P := P) (w := w) (base := base) T 40
  have e : (fun a : (List Int) × Int × Int × Unit => F_gone_on 40 a.1 a.2.1 a.2.2.1) = (fun a : (List Int) × Int × Int × Unit => G_gone_on a.1 a.2.1 a.2.2.1) := by
    funext a
    rw [G_gone_on]
  rw [e] at h
  exact h
/-! ## first_of -/
structure S_first_of where
  mk ::
  v_number : Int
  v_found : (Option (List Int))
  v_steps : Int
@[reducible] def sl_first_of_0 (s : S_first_of) : Sl := (fun s : S_first_of => ([some (Mo.a, enc s.v_number), some (Mo.a, enc s.v_found), some (Mo.a, enc s.v_steps)] : Sl)) s
@[reducible] def sl_first_of_1 (s : S_first_of) : Sl := (fun s : S_first_of => ([some (Mo.a, enc s.v_number), none, none] : Sl)) s
@[reducible] def sl_first_of_2 (s : S_first_of) : Sl := (fun s : S_first_of => ([some (Mo.a, enc s.v_number), some (Mo.a, enc s.v_found), none] : Sl)) s
def lp_first_of_0 (s : S_first_of) : Option (Out S_first_of (Option (List Int))) :=
  seqO (((((some (1 : Int)).bind fun x77 => (some ([] : List Int)).bind fun x78 => some (x77 :: x78)).bind fun x79 => ((some s.v_number).bind fun x80 => ((some s.v_steps).bind fun x81 => (some ()).bind fun x82 => some (x81, x82)).bind fun x83 => some (x80, x83)).bind fun x84 => some (x79, x84)).bind fun x85 => G_gone_on x85.1 x85.2.1 x85.2.2.1).bind fun x86 => some (Out.nx (ρ := (Option (List Int))) { s with v_found := x86 })) fun s =>
  seqO (((some s.v_steps).bind fun x93 => (some (1 : Int)).bind fun x94 => some (x93 + x94)).bind fun x95 => some (Out.nx (ρ := (Option (List Int))) { s with v_steps := x95 })) fun s =>
  some (Out.nx (ρ := (Option (List Int))) s)
def lc_first_of_1 (s : S_first_of) : Option Bool :=
  (some s.v_found).bind fun x55 => (some ()).bind fun x56 => some x55.isNone
def fb_first_of (s : S_first_of) : Option (Out S_first_of (Option (List Int))) :=
  seqO ((some (none : Option (List Int))).bind fun x21 => some (Out.nx (ρ := (Option (List Int))) { s with v_found := x21 })) fun s =>
  seqO ((some (0 : Int)).bind fun x24 => some (Out.nx (ρ := (Option (List Int))) { s with v_steps := x24 })) fun s =>
  seqO (whileO lc_first_of_1 lp_first_of_0 FUEL s) fun s =>
  seqO ((some s.v_found).bind fun x98 => some (Out.rt x98)) fun s =>
  some (Out.nx (ρ := (Option (List Int))) s)
def F_first_of (v_number : Int) : Option (Option (List Int)) := outF none (fb_first_of (⟨v_number, none, 0⟩ : S_first_of))
@[reducible] def sa_first_of (a : Int × Unit) : Sl := [some (Mo.a, enc a.1), none, none]
@[reducible] def in_first_of (a : Int × Unit) : S_first_of := ⟨a.1, none, 0⟩
abbrev N_first_of : List Str := ["number", "found", "steps"]
abbrev s_first_of : Stmt := topS 11
theorem sc_first_of : FnScope N_first_of ["number"] (defScope s_first_of) := ⟨rfl, rfl, rfl, by decide +kernel, rfl, by decide +kernel, by decide +kernel⟩
theorem ok_first_of (T : Top K mg) : FnOk P w K mg base CX0 43 T.a_first_of T.d_first_of ["number"] (spF K N_first_of 1 sa_first_of .a (fun a => F_first_of a.1)) := by
  have nd := sc_first_of.nd
  refine fn_v (slE := sl_first_of_1) (fb := fun a => fb_first_of (in_first_of a)) none T.F_first_of sc_first_of rfl (fun _ h => nomatch h) (.inl rfl) (fun _ => rfl) fun cdv A outer s H E hr => ?_
  exact (bv_wk (sl'' := sl_first_of_1) (h := in_first_of) (fun _ => Wk.refl _)
  (bv_cons (sl'' := sl_first_of_2) (sv_set (i := 1) (fun (s : S_first_of) t => { s with v_found := t }) (fun _ _ => rfl) nd (pv_noneO (τ := (List Int))))
  (bv_cons (sl'' := sl_first_of_0) (sv_set (i := 2) (fun (s : S_first_of) t => { s with v_steps := t }) (fun _ _ => rfl) nd pv_int)
  (bv_cons (sl'' := sl_first_of_0) (sv_while (sl := sl_first_of_0) FUEL PassesOwn.never (pb_cmp c_is (PV.ab (pv_var (i := 1) (fun s : S_first_of => s.v_found) (fun _ => rfl))) (PV.ab pv_none))
  (bv_cons (sl'' := sl_first_of_0) (sv_set (i := 1) (fun (s : S_first_of) t => { s with v_found := t }) (fun _ _ => rfl) nd (pv_calla (okG_gone_on T) (hr.mono (by decide)) (by rfl) T.m_gone_on T.F_gone_on.kp T.b_gone_on (av_a (PV.fa (pv_lst (pal_cons pv_int (pal_nil (τ := Int))))) (av_a (pv_var (i := 0) (fun s : S_first_of => s.v_number) (fun _ => rfl)) (av_a (pv_var (i := 2) (fun s : S_first_of => s.v_steps) (fun _ => rfl)) av_nil))) (fun _ => ⟨2, rfl, rfl⟩)))
  (bv_cons (sl'' := sl_first_of_0) (sv_set (i := 2) (fun (s : S_first_of) t => { s with v_steps := t }) (fun _ _ => rfl) nd (pv_add (PV.ab (pv_var (i := 2) (fun s : S_first_of => s.v_steps) (fun _ => rfl))) (PV.ab pv_int)))
  (bv_nil (h := fun (s : S_first_of) => (s : S_first_of)) (fun _ => (.s (.s (.s .nil))))))))
  (bv_cons (sl'' := sl_first_of_1) (sv_ret (pv_var (i := 1) (fun s : S_first_of => s.v_found) (fun _ => rfl)))
  (bv_nil (sl := sl_first_of_1) (h := fun s => s) (fun _ => Wk.refl _)))))))
/-! ## least_steps -/
structure S_least_steps where
  mk ::
  v_number : Int
@[reducible] def sl_least_steps_0 (s : S_least_steps) : Sl := (fun s : S_least_steps => ([some (Mo.a, enc s.v_number)] : Sl)) s
def fb_least_steps (s : S_least_steps) : Option (Out S_least_steps Int) :=
  seqO ((((some s.v_number).bind fun x24 => ((some (60 : Int)).bind fun x25 => (some ()).bind fun x26 => some (x25, x26)).bind fun x27 => some (x24, x27)).bind fun x28 => F_check_number x28.1 x28.2.1).bind fun _ => some (Out.nx (ρ := Int) s)) fun s =>
  seqO (((((((some s.v_number).bind fun x45 => (some ()).bind fun x46 => some (x45, x46)).bind fun x47 => F_first_of x47.1).bind fun x48 => x48).bind fun x49 => some (x49.length : Int)).bind fun x50 => (some (1 : Int)).bind fun x51 => some (x50 - x51)).bind fun x52 => some (Out.rt x52)) fun s =>
  some (Out.nx (ρ := Int) s)
def F_least_steps (v_number : Int) : Option Int := outF none (fb_least_steps (⟨v_number⟩ : S_least_steps))
@[reducible] def sa_least_steps (a : Int × Unit) : Sl := [some (Mo.a, enc a.1)]
@[reducible] def in_least_steps (a : Int × Unit) : S_least_steps := ⟨a.1⟩
abbrev N_least_steps : List Str := ["number"]
abbrev s_least_steps : Stmt := topS 12
theorem sc_least_steps : FnScope N_least_steps ["number"] (defScope s_least_steps) := ⟨rfl, rfl, rfl, by decide +kernel, rfl, by decide +kernel, by decide +kernel⟩
theorem ok_least_steps (T : Top K mg) : FnOk P w K mg base CX0 44 T.a_least_steps T.d_least_steps ["number"] (spF K N_least_steps 1 sa_least_steps .a (fun a => F_least_steps a.1)) := by
  have nd := sc_least_steps.nd
  refine fn_v (slE := sl_least_steps_0) (fb := fun a => fb_least_steps (in_least_steps a)) none T.F_least_steps sc_least_steps rfl (fun _ h => nomatch h) (.inl rfl) (fun _ => rfl) fun cdv A outer s H E hr => ?_
  exact (bv_wk (sl'' := sl_least_steps_0) (h := in_least_steps) (fun _ => Wk.refl _)
  (bv_cons (sl'' := sl_least_steps_0) (sv_expr (pv_calla (ok_check_number T) (hr.mono (by decide)) (by rfl) T.m_check_number T.F_check_number.kp T.b_check_number (av_a (pv_var (i := 0) (fun s : S_least_steps => s.v_number) (fun _ => rfl)) (av_a (pv_gint (i := 60) (by rfl) T.c_MOST_NUMBER.choose_spec ⟨_, rfl⟩) av_nil)) (fun _ => ⟨0, rfl, rfl⟩)))
  (bv_cons (sl'' := sl_least_steps_0) (sv_ret (pv_sub (PV.ab (pv_len (by rfl) T.z_len (PV.ab (PV.cast (pv_calla (ok_first_of T) (hr.mono (by decide)) (by rfl) T.m_first_of T.F_first_of.kp T.b_first_of (av_a (pv_var (i := 0) (fun s : S_least_steps => s.v_number) (fun _ => rfl)) av_nil) (fun _ => ⟨2, rfl, rfl⟩)))))) (PV.ab pv_int)))
  (bv_nil (sl := sl_least_steps_0) (h := fun s => s) (fun _ => Wk.refl _)))))
/-! ## cheapest -/
structure S_cheapest where
  mk ::
  v_number : Int
  v_add : Int
  v_shift : Int
  v_price : Int
  v_one : Int
  v_told : (List (T2 Int Int))
  v_two : Int
@[reducible] def sl_cheapest_0 (s : S_cheapest) : Sl := (fun s : S_cheapest => ([some (Mo.a, enc s.v_number), some (Mo.a, enc s.v_add), some (Mo.a, enc s.v_shift), some (Mo.a, enc s.v_price), none, none, none, none, none] : Sl)) s
@[reducible] def sl_cheapest_1 (s : S_cheapest) : Sl := (fun s : S_cheapest => ([some (Mo.a, enc s.v_number), some (Mo.a, enc s.v_add), some (Mo.a, enc s.v_shift), none, none, none, none, none, none] : Sl)) s
@[reducible] def sl_cheapest_2 (s : S_cheapest) : Sl := (fun s : S_cheapest => ([some (Mo.a, enc s.v_number), some (Mo.a, enc s.v_add), some (Mo.a, enc s.v_shift), none, some (Mo.a, enc s.v_one), some (Mo.a, enc s.v_told), some (Mo.a, enc s.v_two), none, none] : Sl)) s
@[reducible] def sl_cheapest_3 (s : S_cheapest) : Sl := (fun s : S_cheapest => ([some (Mo.a, enc s.v_number), some (Mo.a, enc s.v_add), some (Mo.a, enc s.v_shift), none, some (Mo.a, enc s.v_one), some (Mo.a, enc s.v_told), none, none, none] : Sl)) s
@[reducible] def sl_cheapest_4 (s : S_cheapest) : Sl := (fun s : S_cheapest => ([some (Mo.a, enc s.v_number), some (Mo.a, enc s.v_add), some (Mo.a, enc s.v_shift), none, some (Mo.a, enc s.v_one), none, none, none, none] : Sl)) s
def lp_cheapest_0 (s : S_cheapest) : Option (Out S_cheapest (T2 Int Tx)) :=
  seqO ((((some (0 : Int)).bind fun x98 => (some s.v_price).bind fun x99 => (some (decide (x98 ≤ x99))).bind fun x101 => if x101 = true then (some (100 : Int)).bind fun x100 => some (decide (x99 ≤ x100)) else some false).bind fun x102 => some (!x102)).bind fun x103 => if x103 = true then
  (seqO (none) fun s =>
  some (Out.nx (ρ := (T2 Int Tx)) s))
  else some (Out.nx (ρ := (T2 Int Tx)) s)) fun s =>
  some (Out.nx (ρ := (T2 Int Tx)) { s with v_price := 0 })
def fb_cheapest (s : S_cheapest) : Option (Out S_cheapest (T2 Int Tx)) :=
  seqO ((((some s.v_number).bind fun x61 => ((some (60 : Int)).bind fun x62 => (some ()).bind fun x63 => some (x62, x63)).bind fun x64 => some (x61, x64)).bind fun x65 => F_check_number x65.1 x65.2.1).bind fun _ => some (Out.nx (ρ := (T2 Int Tx)) s)) fun s =>
  seqO ((((some s.v_add).bind fun x85 => (some s.v_shift).bind fun x86 => some (T2.mk x85 x86)).bind fun x87 => some [x87.a, x87.b]).bind fun x104 => forO (fun (s : S_cheapest) (t : Int) => { s with v_price := t }) lp_cheapest_0 x104 s) fun s =>
  seqO (((some s.v_add).bind fun x132 => ((((((some s.v_number).bind fun x125 => (some ()).bind fun x126 => some (x125, x126)).bind fun x127 => F_first_of x127.1).bind fun x128 => x128).bind fun x129 => some (x129.length : Int)).bind fun x130 => (some (1 : Int)).bind fun x131 => some (x130 - x131)).bind fun x133 => iMul x132 x133).bind fun x134 => some (Out.nx (ρ := (T2 Int Tx)) { s with v_one := x134 })) fun s =>
  seqO ((((some s.v_number).bind fun x143 => (some ()).bind fun x144 => some (x143, x144)).bind fun x145 => F_shifts_of x145.1).bind fun x146 => some (Out.nx (ρ := (T2 Int Tx)) { s with v_told := x146 })) fun s =>
  seqO ((((some s.v_add).bind fun x180 => (((some s.v_told).bind fun x177 => some (x177.length : Int)).bind fun x178 => (some (1 : Int)).bind fun x179 => some (x178 - x179)).bind fun x181 => iMul x180 x181).bind fun x189 => ((some s.v_shift).bind fun x187 => (((some s.v_told).bind fun x184 => (lNew x184).bind fun x185 => compO (fun s : ((S_cheapest × Int) × Int) => (some s.1.2).bind fun x182 => (some (0 : Int)).bind fun x183 => some (decide (x182 > x183))) (fun s : ((S_cheapest × Int) × Int) => some s.1.2) (fun t : (T2 Int Int) => (((s, t.a), t.b) : ((S_cheapest × Int) × Int))) x185).bind fun x186 => some (x186.length : Int)).bind fun x188 => iMul x187 x188).bind fun x190 => some (x189 + x190)).bind fun x191 => some (Out.nx (ρ := (T2 Int Tx)) { s with v_two := x191 })) fun s =>
  seqO ((((some s.v_one).bind fun x208 => (some s.v_two).bind fun x209 => some (decide (x208 ≤ x209))).bind fun x214 => if x214 = true then (some s.v_one).bind fun x210 => (some (⟨[99, 104, 97, 105, 110]⟩ : Tx)).bind fun x211 => some (T2.mk x210 x211) else (some s.v_two).bind fun x212 => (some (⟨[115, 104, 105, 102, 116, 115]⟩ : Tx)).bind fun x213 => some (T2.mk x212 x213)).bind fun x215 => some (Out.rt x215)) fun s =>
  some (Out.nx (ρ := (T2 Int Tx)) s)
def F_cheapest (v_number : Int) (v_add : Int) (v_shift : Int) : Option (T2 Int Tx) := outF none (fb_cheapest (⟨v_number, v_add, v_shift, 0, 0, [], 0⟩ : S_cheapest))
@[reducible] def sa_cheapest (a : Int × Int × Int × Unit) : Sl := [some (Mo.a, enc a.1), some (Mo.a, enc a.2.1), some (Mo.a, enc a.2.2.1), none, none, none, none, none, none]
@[reducible] def in_cheapest (a : Int × Int × Int × Unit) : S_cheapest := ⟨a.1, a.2.1, a.2.2.1, 0, 0, [], 0⟩
abbrev N_cheapest : List Str := ["number", "add", "shift", "price", "one", "told", "two", "place", "_"]
abbrev s_cheapest : Stmt := topS 19
theorem sc_cheapest : FnScope N_cheapest ["number", "add", "shift"] (defScope s_cheapest) := ⟨rfl, rfl, rfl, by decide +kernel, rfl, by decide +kernel, by decide +kernel⟩
theorem ok_cheapest (T : Top K mg) : FnOk P w K mg base CX0 44 T.a_cheapest T.d_cheapest ["number", "add", "shift"] (spF K N_cheapest 3 sa_cheapest .a (fun a => F_cheapest a.1 a.2.1 a.2.2.1)) := by
  have nd := sc_cheapest.nd
  refine fn_v (slE := sl_cheapest_1) (fb := fun a => fb_cheapest (in_cheapest a)) none T.F_cheapest sc_cheapest rfl (fun _ h => nomatch h) (.inl rfl) (fun _ => rfl) fun cdv A outer s H E hr => ?_
  exact (bv_wk (sl'' := sl_cheapest_1) (h := in_cheapest) (fun _ => Wk.refl _)
  (bv_cons (sl'' := sl_cheapest_1) (sv_expr (pv_calla (ok_check_number T) (hr.mono (by decide)) (by rfl) T.m_check_number T.F_check_number.kp T.b_check_number (av_a (pv_var (i := 0) (fun s : S_cheapest => s.v_number) (fun _ => rfl)) (av_a (pv_gint (i := 60) (by rfl) T.c_MOST_NUMBER.choose_spec ⟨_, rfl⟩) av_nil)) (fun _ => ⟨0, rfl, rfl⟩)))
  (bv_cons (sl'' := sl_cheapest_1) (sv_for (sl := sl_cheapest_1) PassesOwn.never (piv_tup (fun t : (T2 Int Int) => [t.a, t.b]) (fun _ => rfl) (PV.ab (pv_tup2 (pv_var (i := 1) (fun s : S_cheapest => s.v_add) (fun _ => rfl)) (pv_var (i := 2) (fun s : S_cheapest => s.v_shift) (fun _ => rfl))))) (gv_name (i := 3) (slb := sl_cheapest_0) (set := (fun (s : S_cheapest) (t : Int) => { s with v_price := t })) (fun _ _ => rfl) nd)
  (bv_cons (sl'' := sl_cheapest_0) (sv_if (pb_not (pb_chain c_le c_le (PV.ab pv_int) (PV.ab (pv_var (i := 3) (fun s : S_cheapest => s.v_price) (fun _ => rfl))) (PV.ab (pv_gint (i := 100) (by rfl) T.c_MOST_PRICE.choose_spec ⟨_, rfl⟩))))
  (bv_cons (sl'' := sl_cheapest_0) sv_never
  (bv_nil (sl := sl_cheapest_0) (h := fun s => s) (fun _ => Wk.refl _)))
  (bv_nil (h := fun (s : S_cheapest) => (s : S_cheapest)) (fun _ => (.s (.s (.s (.s (.s (.s (.s (.s (.s .nil))))))))))))
  (bv_nil (h := fun (s : S_cheapest) => ({ s with v_price := 0 } : S_cheapest)) (fun _ => (.s (.s (.s (.d (.s (.s (.s (.s (.s .nil)))))))))))))
  (bv_cons (sl'' := sl_cheapest_4) (sv_set (i := 4) (fun (s : S_cheapest) t => { s with v_one := t }) (fun _ _ => rfl) nd (pv_mul (PV.ab (pv_var (i := 1) (fun s : S_cheapest => s.v_add) (fun _ => rfl))) (PV.ab (pv_sub (PV.ab (pv_len (by rfl) T.z_len (PV.ab (PV.cast (pv_calla (ok_first_of T) (hr.mono (by decide)) (by rfl) T.m_first_of T.F_first_of.kp T.b_first_of (av_a (pv_var (i := 0) (fun s : S_cheapest => s.v_number) (fun _ => rfl)) av_nil) (fun _ => ⟨2, rfl, rfl⟩)))))) (PV.ab pv_int)))))
  (bv_cons (sl'' := sl_cheapest_3) (sv_set (i := 5) (fun (s : S_cheapest) t => { s with v_told := t }) (fun _ _ => rfl) nd (PV.fa (pv_callf (ok_shifts_of T) (hr.mono (by decide)) (by rfl) T.m_shifts_of T.F_shifts_of.kp T.b_shifts_of (av_a (pv_var (i := 0) (fun s : S_cheapest => s.v_number) (fun _ => rfl)) av_nil) (fun _ => ⟨2, rfl, rfl⟩))))
  (bv_cons (sl'' := sl_cheapest_2) (sv_set (i := 6) (fun (s : S_cheapest) t => { s with v_two := t }) (fun _ _ => rfl) nd (pv_add (PV.ab (pv_mul (PV.ab (pv_var (i := 1) (fun s : S_cheapest => s.v_add) (fun _ => rfl))) (PV.ab (pv_sub (PV.ab (pv_len (by rfl) T.z_len (PV.ab (pv_var (i := 5) (fun s : S_cheapest => s.v_told) (fun _ => rfl))))) (PV.ab pv_int))))) (PV.ab (pv_mul (PV.ab (pv_var (i := 2) (fun s : S_cheapest => s.v_shift) (fun _ => rfl))) (PV.ab (pv_len (by rfl) T.z_len (PV.fb (pv_lc (own := [("place", 7), ("_", 8)]) (js := [7, 8]) (slb := (fun s : ((S_cheapest × Int) × Int) => ([some (Mo.a, enc s.1.1.v_number), some (Mo.a, enc s.1.1.v_add), some (Mo.a, enc s.1.1.v_shift), none, some (Mo.a, enc s.1.1.v_one), some (Mo.a, enc s.1.1.v_told), none, some (Mo.a, enc s.1.2), some (Mo.a, enc s.2)] : Sl))) (set := fun (g : S_cheapest) (t : (T2 Int Int)) => (((g, t.a), t.b) : ((S_cheapest × Int) × Int))) nd (IV.ab (piv_list (pv_var (i := 5) (fun s : S_cheapest => s.v_told) (fun _ => rfl)))) (blkOk_by (N := N_cheapest) (sc := defScope s_cheapest) (by decide +kernel)) (by decide) (fun _ _ _ _ _ => (gv_tup (fun t : (T2 Int Int) => [enc t.a, enc t.b]) (fun _ => rfl) (fun _ => rfl) (gvs_cons (p1 := fun t : (T2 Int Int) => t.a) (p2 := fun t : (T2 Int Int) => t) (gv_name (i := 7) (slb := (fun s : (S_cheapest × Int) => ([some (Mo.a, enc s.1.v_number), some (Mo.a, enc s.1.v_add), some (Mo.a, enc s.1.v_shift), none, some (Mo.a, enc s.1.v_one), some (Mo.a, enc s.1.v_told), none, some (Mo.a, enc s.2), none] : Sl))) (set := fun (g : S_cheapest) (t : Int) => ((g, t) : (S_cheapest × Int))) (fun _ _ => rfl) nd) (gvs_cons (p1 := fun t : (T2 Int Int) => t.b) (p2 := fun t : (T2 Int Int) => t) (gv_name (i := 8) (slb := (fun s : ((S_cheapest × Int) × Int) => ([some (Mo.a, enc s.1.1.v_number), some (Mo.a, enc s.1.1.v_add), some (Mo.a, enc s.1.1.v_shift), none, some (Mo.a, enc s.1.1.v_one), some (Mo.a, enc s.1.1.v_told), none, some (Mo.a, enc s.1.2), some (Mo.a, enc s.2)] : Sl))) (set := fun (g : (S_cheapest × Int)) (t : Int) => ((g, t) : ((S_cheapest × Int) × Int))) (fun _ _ => rfl) nd) gvs_nil)))) (fun _ _ _ _ _ => pbs_one (pb_cmp c_gt (PV.ab (pv_var (i := 7) (fun s : ((S_cheapest × Int) × Int) => s.1.2) (fun _ => rfl))) (PV.ab pv_int))) (fun _ _ _ _ _ => (pv_var (i := 7) (fun s : ((S_cheapest × Int) × Int) => s.1.2) (fun _ => rfl)))))))))))
  (bv_cons (sl'' := sl_cheapest_1) (sv_ret (pv_if (pb_cmp c_le (PV.ab (pv_var (i := 4) (fun s : S_cheapest => s.v_one) (fun _ => rfl))) (PV.ab (pv_var (i := 6) (fun s : S_cheapest => s.v_two) (fun _ => rfl)))) (pv_tup2 (pv_var (i := 4) (fun s : S_cheapest => s.v_one) (fun _ => rfl)) (pv_str [99, 104, 97, 105, 110])) (pv_tup2 (pv_var (i := 6) (fun s : S_cheapest => s.v_two) (fun _ => rfl)) (pv_str [115, 104, 105, 102, 116, 115]))))
  (bv_nil (sl := sl_cheapest_1) (h := fun s => s) (fun _ => Wk.refl _)))))))))
/-! ## _law_raised -/
structure S__law_raised where
  mk ::
  v_place : Int
  v_found : Int
  v_turn : Int
@[reducible] def sl__law_raised_0 (s : S__law_raised) : Sl := (fun s : S__law_raised => ([some (Mo.a, enc s.v_place), some (Mo.a, enc s.v_found), some (Mo.a, enc s.v_turn)] : Sl)) s
@[reducible] def sl__law_raised_1 (s : S__law_raised) : Sl := (fun s : S__law_raised => ([some (Mo.a, enc s.v_place), some (Mo.a, enc s.v_found), none] : Sl)) s
@[reducible] def sl__law_raised_2 (s : S__law_raised) : Sl := (fun s : S__law_raised => ([some (Mo.a, enc s.v_place), none, none] : Sl)) s
def lp__law_raised_0 (s : S__law_raised) : Option (Out S__law_raised Int) :=
  seqO (((some (2 : Int)).bind fun x26 => (some s.v_found).bind fun x27 => iMul x26 x27).bind fun x28 => some (Out.nx (ρ := Int) { s with v_found := x28 })) fun s =>
  some (Out.nx (ρ := Int) { s with v_turn := 0 })
def fb__law_raised (s : S__law_raised) : Option (Out S__law_raised Int) :=
  seqO ((some (1 : Int)).bind fun x9 => some (Out.nx (ρ := Int) { s with v_found := x9 })) fun s =>
  seqO (((some s.v_place).bind fun x19 => rng1 x19).bind fun x29 => forO (fun (s : S__law_raised) (t : Int) => { s with v_turn := t }) lp__law_raised_0 x29 s) fun s =>
  seqO ((some s.v_found).bind fun x32 => some (Out.rt x32)) fun s =>
  some (Out.nx (ρ := Int) s)
def F__law_raised (v_place : Int) : Option Int := outF none (fb__law_raised (⟨v_place, 0, 0⟩ : S__law_raised))
@[reducible] def sa__law_raised (a : Int × Unit) : Sl := [some (Mo.a, enc a.1), none, none]
@[reducible] def in__law_raised (a : Int × Unit) : S__law_raised := ⟨a.1, 0, 0⟩
abbrev N__law_raised : List Str := ["place", "found", "turn"]
abbrev s__law_raised : Stmt := topS 23
theorem sc__law_raised : FnScope N__law_raised ["place"] (defScope s__law_raised) := ⟨rfl, rfl, rfl, by decide +kernel, rfl, by decide +kernel, by decide +kernel⟩
theorem ok__law_raised (T : Top K mg) : FnOk P w K mg base CX0 1 T.a__law_raised T.d__law_raised ["place"] (spF K N__law_raised 1 sa__law_raised .a (fun a => F__law_raised a.1)) := by
  have nd := sc__law_raised.nd
  refine fn_v (slE := sl__law_raised_2) (fb := fun a => fb__law_raised (in__law_raised a)) none T.F__law_raised sc__law_raised rfl (fun _ h => nomatch h) (.inl rfl) (fun _ => rfl) fun cdv A outer s H E hr => ?_
  exact (bv_wk (sl'' := sl__law_raised_2) (h := in__law_raised) (fun _ => Wk.refl _)
  (bv_cons (sl'' := sl__law_raised_1) (sv_set (i := 1) (fun (s : S__law_raised) t => { s with v_found := t }) (fun _ _ => rfl) nd pv_int)
  (bv_cons (sl'' := sl__law_raised_1) (sv_for (sl := sl__law_raised_1) PassesOwn.never (piv_range1 (by rfl) T.z_range (PV.ab (pv_var (i := 0) (fun s : S__law_raised => s.v_place) (fun _ => rfl)))) (gv_name (i := 2) (slb := sl__law_raised_0) (set := (fun (s : S__law_raised) (t : Int) => { s with v_turn := t })) (fun _ _ => rfl) nd)
  (bv_cons (sl'' := sl__law_raised_0) (sv_set (i := 1) (fun (s : S__law_raised) t => { s with v_found := t }) (fun _ _ => rfl) nd (pv_mul (PV.ab pv_int) (PV.ab (pv_var (i := 1) (fun s : S__law_raised => s.v_found) (fun _ => rfl)))))
  (bv_nil (h := fun (s : S__law_raised) => ({ s with v_turn := 0 } : S__law_raised)) (fun _ => (.s (.s (.d .nil)))))))
  (bv_cons (sl'' := sl__law_raised_2) (sv_ret (pv_var (i := 1) (fun s : S__law_raised => s.v_found) (fun _ => rfl)))
  (bv_nil (sl := sl__law_raised_2) (h := fun s => s) (fun _ => Wk.refl _))))))
/-! ## _law_fewest -/
structure S__law_fewest where
  mk ::
  v_number : Int
  v_here : (List Int)
  v_met : (List Int)
  v_many : Int
  v_later : (List Int)
  v_one : Int
  v_place : Int
@[reducible] def sl__law_fewest_0 (s : S__law_fewest) : Sl := (fun s : S__law_fewest => ([some (Mo.a, enc s.v_number), some (Mo.a, enc s.v_here), none, none, none, none, none] : Sl)) s
@[reducible] def sl__law_fewest_1 (s : S__law_fewest) : Sl := (fun s : S__law_fewest => ([some (Mo.a, enc s.v_number), some (Mo.a, enc s.v_here), some (Mo.a, enc s.v_met), none, none, none, none] : Sl)) s
@[reducible] def sl__law_fewest_2 (s : S__law_fewest) : Sl := (fun s : S__law_fewest => ([some (Mo.a, enc s.v_number), some (Mo.a, enc s.v_here), some (Mo.a, enc s.v_met), some (Mo.a, enc s.v_many), none, none, none] : Sl)) s
@[reducible] def sl__law_fewest_3 (s : S__law_fewest) : Sl := (fun s : S__law_fewest => ([some (Mo.a, enc s.v_number), some (Mo.a, enc s.v_here), some (Mo.a, enc s.v_met), some (Mo.a, enc s.v_many), some (Mo.a, enc s.v_later), some (Mo.a, enc s.v_one), some (Mo.a, enc s.v_place)] : Sl)) s
@[reducible] def sl__law_fewest_4 (s : S__law_fewest) : Sl := (fun s : S__law_fewest => ([some (Mo.a, enc s.v_number), some (Mo.a, enc s.v_here), some (Mo.a, enc s.v_met), some (Mo.a, enc s.v_many), some (Mo.a, enc s.v_later), some (Mo.a, enc s.v_one), none] : Sl)) s
@[reducible] def sl__law_fewest_5 (s : S__law_fewest) : Sl := (fun s : S__law_fewest => ([some (Mo.a, enc s.v_number), some (Mo.a, enc s.v_here), some (Mo.a, enc s.v_met), some (Mo.a, enc s.v_many), some (Mo.a, enc s.v_later), none, none] : Sl)) s
@[reducible] def sl__law_fewest_6 (s : S__law_fewest) : Sl := (fun s : S__law_fewest => ([some (Mo.a, enc s.v_number), none, none, none, none, none, none] : Sl)) s
def lp__law_fewest_0 (s : S__law_fewest) : Option (Out S__law_fewest Int) :=
  seqO (((some s.v_later).bind fun x640 => (((some s.v_one).bind fun x636 => (((some s.v_place).bind fun x633 => (some ()).bind fun x634 => some (x633, x634)).bind fun x635 => F__law_raised x635.1).bind fun x637 => some (x636 + x637)).bind fun x638 => (((some s.v_one).bind fun x629 => (((some s.v_place).bind fun x626 => (some ()).bind fun x627 => some (x626, x627)).bind fun x628 => F__law_raised x628.1).bind fun x630 => some (x629 - x630)).bind fun x631 => (some ([] : List Int)).bind fun x632 => some (x631 :: x632)).bind fun x639 => some (x638 :: x639)).bind fun x641 => lCat x640 x641).bind fun x642 => some (Out.nx (ρ := Int) { s with v_later := x642 })) fun s =>
  some (Out.nx (ρ := Int) { s with v_place := 0 })
def lp__law_fewest_1 (s : S__law_fewest) : Option (Out S__law_fewest Int) :=
  seqO (((some (8 : Int)).bind fun x489 => rng1 x489).bind fun x643 => forO (fun (s : S__law_fewest) (t : Int) => { s with v_place := t }) lp__law_fewest_0 x643 s) fun s =>
  some (Out.nx (ρ := Int) { s with v_one := 0 })
def lp__law_fewest_2 (s : S__law_fewest) : Option (Out S__law_fewest Int) :=
  seqO ((some ([] : List Int)).bind fun x279 => some (Out.nx (ρ := Int) { s with v_later := x279 })) fun s =>
  seqO ((some s.v_here).bind fun x644 => forO (fun (s : S__law_fewest) (t : Int) => { s with v_one := t }) lp__law_fewest_1 x644 s) fun s =>
  seqO ((((some s.v_later).bind fun x665 => srtSet x665).bind fun x672 => (lNew x672).bind fun x673 => compO (fun s : (S__law_fewest × Int) => ((some s.2).bind fun x666 => (some s.1.v_met).bind fun x667 => dNin x666 x667).bind fun x671 => if x671 = true then ((some s.2).bind fun x668 => some (x668.natAbs : Int)).bind fun x669 => (some (300 : Int)).bind fun x670 => some (decide (x669 < x670)) else some false) (fun s : (S__law_fewest × Int) => some s.2) (fun t : Int => ((s, t) : (S__law_fewest × Int))) x673).bind fun x674 => some (Out.nx (ρ := Int) { s with v_here := x674 })) fun s =>
  seqO (((some s.v_met).bind fun x681 => (some s.v_here).bind fun x682 => lCat x681 x682).bind fun x683 => some (Out.nx (ρ := Int) { s with v_met := x683 })) fun s =>
  seqO (((some s.v_many).bind fun x690 => (some (1 : Int)).bind fun x691 => some (x690 + x691)).bind fun x692 => some (Out.nx (ρ := Int) { s with v_many := x692 })) fun s =>
  some (Out.nx (ρ := Int) { s with v_later := [] })
def lc__law_fewest_3 (s : S__law_fewest) : Option Bool :=
  (some s.v_number).bind fun x275 => (some s.v_here).bind fun x276 => dNin x275 x276
def fb__law_fewest (s : S__law_fewest) : Option (Out S__law_fewest Int) :=
  seqO ((((some (0 : Int)).bind fun x125 => (some ([] : List Int)).bind fun x126 => some (x125 :: x126)).bind fun x129 => ((some (0 : Int)).bind fun x127 => (some ([] : List Int)).bind fun x128 => some (x127 :: x128)).bind fun x130 => (some (0 : Int)).bind fun x131 => some (T3.mk x129 x130 x131)).bind fun x132 => some (Out.nx (ρ := Int) ((fun (s : S__law_fewest) (t : (T3 (List Int) (List Int) Int)) => { ({ ({ s with v_here := t.a }) with v_met := t.b }) with v_many := t.c }) s x132))) fun s =>
  seqO (whileO lc__law_fewest_3 lp__law_fewest_2 FUEL s) fun s =>
  seqO ((some s.v_many).bind fun x695 => some (Out.rt x695)) fun s =>
  some (Out.nx (ρ := Int) s)
def F__law_fewest (v_number : Int) : Option Int := outF none (fb__law_fewest (⟨v_number, [], [], 0, [], 0, 0⟩ : S__law_fewest))
@[reducible] def sa__law_fewest (a : Int × Unit) : Sl := [some (Mo.a, enc a.1), none, none, none, none, none, none]
@[reducible] def in__law_fewest (a : Int × Unit) : S__law_fewest := ⟨a.1, [], [], 0, [], 0, 0⟩
abbrev N__law_fewest : List Str := ["number", "here", "met", "many", "later", "one", "place"]
abbrev s__law_fewest : Stmt := topS 24
theorem sc__law_fewest : FnScope N__law_fewest ["number"] (defScope s__law_fewest) := ⟨rfl, rfl, rfl, by decide +kernel, rfl, by decide +kernel, by decide +kernel⟩
theorem ok__law_fewest (T : Top K mg) : FnOk P w K mg base CX0 2 T.a__law_fewest T.d__law_fewest ["number"] (spF K N__law_fewest 1 sa__law_fewest .a (fun a => F__law_fewest a.1)) := by
  have nd := sc__law_fewest.nd
  refine fn_v (slE := sl__law_fewest_6) (fb := fun a => fb__law_fewest (in__law_fewest a)) none T.F__law_fewest sc__law_fewest rfl (fun _ h => nomatch h) (.inl rfl) (fun _ => rfl) fun cdv A outer s H E hr => ?_
  exact (bv_wk (sl'' := sl__law_fewest_6) (h := in__law_fewest) (fun _ => Wk.refl _)
  (bv_cons (sl'' := sl__law_fewest_2) (sv_tup (gv_tup (fun t : (T3 (List Int) (List Int) Int) => [enc t.a, enc t.b, enc t.c]) (fun _ => rfl) (fun _ => rfl) (gvs_cons (p1 := fun t : (T3 (List Int) (List Int) Int) => t.a) (p2 := fun t : (T3 (List Int) (List Int) Int) => t) (gv_name (i := 1) (slb := sl__law_fewest_0) (set := fun (s : S__law_fewest) (t : (List Int)) => { s with v_here := t }) (fun _ _ => rfl) nd) (gvs_cons (p1 := fun t : (T3 (List Int) (List Int) Int) => t.b) (p2 := fun t : (T3 (List Int) (List Int) Int) => t) (gv_name (i := 2) (slb := sl__law_fewest_1) (set := fun (s : S__law_fewest) (t : (List Int)) => { s with v_met := t }) (fun _ _ => rfl) nd) (gvs_cons (p1 := fun t : (T3 (List Int) (List Int) Int) => t.c) (p2 := fun t : (T3 (List Int) (List Int) Int) => t) (gv_name (i := 3) (slb := sl__law_fewest_2) (set := fun (s : S__law_fewest) (t : Int) => { s with v_many := t }) (fun _ _ => rfl) nd) gvs_nil)))) (pv_tup3 (PV.fa (pv_lst (pal_cons pv_int (pal_nil (τ := Int))))) (PV.fa (pv_lst (pal_cons pv_int (pal_nil (τ := Int))))) pv_int))
  (bv_cons (sl'' := sl__law_fewest_2) (sv_while (sl := sl__law_fewest_2) FUEL PassesOwn.never (pb_cmp (c_nin (hu65 hr)) (PV.ab (pv_var (i := 0) (fun s : S__law_fewest => s.v_number) (fun _ => rfl))) (PV.ab (pv_var (i := 1) (fun s : S__law_fewest => s.v_here) (fun _ => rfl))))
  (bv_cons (sl'' := sl__law_fewest_5) (sv_set (i := 4) (fun (s : S__law_fewest) t => { s with v_later := t }) (fun _ _ => rfl) nd (PV.fa (pv_lst (pal_nil (τ := Int)))))
  (bv_cons (sl'' := sl__law_fewest_5) (sv_for (sl := sl__law_fewest_5) PassesOwn.never (piv_list (pv_var (i := 1) (fun s : S__law_fewest => s.v_here) (fun _ => rfl))) (gv_name (i := 5) (slb := sl__law_fewest_4) (set := (fun (s : S__law_fewest) (t : Int) => { s with v_one := t })) (fun _ _ => rfl) nd)
  (bv_cons (sl'' := sl__law_fewest_4) (sv_for (sl := sl__law_fewest_4) PassesOwn.never (piv_range1 (by rfl) T.z_range (PV.ab pv_int)) (gv_name (i := 6) (slb := sl__law_fewest_3) (set := (fun (s : S__law_fewest) (t : Int) => { s with v_place := t })) (fun _ _ => rfl) nd)
  (bv_cons (sl'' := sl__law_fewest_3) (sv_set (i := 4) (fun (s : S__law_fewest) t => { s with v_later := t }) (fun _ _ => rfl) nd (PV.fa (pv_cat (PV.ab (pv_var (i := 4) (fun s : S__law_fewest => s.v_later) (fun _ => rfl))) (PV.fb (pv_lst (pal_cons (pv_add (PV.ab (pv_var (i := 5) (fun s : S__law_fewest => s.v_one) (fun _ => rfl))) (PV.ab (pv_calla (ok__law_raised T) (hr.mono (by decide)) (by rfl) T.m__law_raised T.F__law_raised.kp T.b__law_raised (av_a (pv_var (i := 6) (fun s : S__law_fewest => s.v_place) (fun _ => rfl)) av_nil) (fun _ => ⟨2, rfl, rfl⟩)))) (pal_cons (pv_sub (PV.ab (pv_var (i := 5) (fun s : S__law_fewest => s.v_one) (fun _ => rfl))) (PV.ab (pv_calla (ok__law_raised T) (hr.mono (by decide)) (by rfl) T.m__law_raised T.F__law_raised.kp T.b__law_raised (av_a (pv_var (i := 6) (fun s : S__law_fewest => s.v_place) (fun _ => rfl)) av_nil) (fun _ => ⟨2, rfl, rfl⟩)))) (pal_nil (τ := Int)))))))))
  (bv_nil (h := fun (s : S__law_fewest) => ({ s with v_place := 0 } : S__law_fewest)) (fun _ => (.s (.s (.s (.s (.s (.s (.d .nil)))))))))))
  (bv_nil (h := fun (s : S__law_fewest) => ({ s with v_one := 0 } : S__law_fewest)) (fun _ => (.s (.s (.s (.s (.s (.d (.s .nil)))))))))))
  (bv_cons (sl'' := sl__law_fewest_5) (by
    apply sv_setLc (i := 1) (own := [("one", 5)]) (js := [5]) (slb := (fun s : (S__law_fewest × Int) => ([some (Mo.a, enc s.1.v_number), some (Mo.a, enc s.1.v_here), some (Mo.a, enc s.1.v_met), some (Mo.a, enc s.1.v_many), some (Mo.a, enc s.1.v_later), some (Mo.a, enc s.2), none] : Sl))) (set := fun (g : S__law_fewest) (t : Int) => ((g, t) : (S__law_fewest × Int)))
    case h => exact fun _ _ => rfl
    case hN => exact nd
    case hi => exact (IV.ab (piv_list (PV.fa (pv_srtset (by rfl) (by rfl) T.z_sorted (by rfl) T.z_set (PV.ab (pv_var (i := 4) (fun s : S__law_fewest => s.v_later) (fun _ => rfl)))))))
    case ok => exact (blkOk_by (N := N__law_fewest) (sc := defScope s__law_fewest) (by decide +kernel))
    case hj => decide
    case hg => exact (fun _ _ _ _ _ => (gv_name (i := 5) (fun _ _ => rfl) nd))
    case ht => exact (fun _ _ _ _ _ => pbs_one (PBw.pb (pb_and (pb_cmp (c_nin (hu65 hr)) (PV.ab (pv_var (i := 5) (fun s : (S__law_fewest × Int) => s.2) (fun _ => rfl))) (PV.ab (pv_var (i := 2) (fun s : (S__law_fewest × Int) => s.1.v_met) (fun _ => rfl)))) (pb_and1 (pb_cmp c_lt (PV.ab (pv_abs (by rfl) T.z_abs (PV.ab (pv_var (i := 5) (fun s : (S__law_fewest × Int) => s.2) (fun _ => rfl))))) (PV.ab pv_int))))))
    case he => exact (fun _ _ _ _ _ => (pv_var (i := 5) (fun s : (S__law_fewest × Int) => s.2) (fun _ => rfl))))
  (bv_cons (sl'' := sl__law_fewest_5) (sv_set (i := 2) (fun (s : S__law_fewest) t => { s with v_met := t }) (fun _ _ => rfl) nd (PV.fa (pv_cat (PV.ab (pv_var (i := 2) (fun s : S__law_fewest => s.v_met) (fun _ => rfl))) (PV.ab (pv_var (i := 1) (fun s : S__law_fewest => s.v_here) (fun _ => rfl))))))
  (bv_cons (sl'' := sl__law_fewest_5) (sv_set (i := 3) (fun (s : S__law_fewest) t => { s with v_many := t }) (fun _ _ => rfl) nd (pv_add (PV.ab (pv_var (i := 3) (fun s : S__law_fewest => s.v_many) (fun _ => rfl))) (PV.ab pv_int)))
  (bv_nil (h := fun (s : S__law_fewest) => ({ s with v_later := [] } : S__law_fewest)) (fun _ => (.s (.s (.s (.s (.d (.s (.s .nil)))))))))))))))
  (bv_cons (sl'' := sl__law_fewest_6) (sv_ret (pv_var (i := 3) (fun s : S__law_fewest => s.v_many) (fun _ => rfl)))
  (bv_nil (sl := sl__law_fewest_6) (h := fun s => s) (fun _ => Wk.refl _))))))
/-! ## law -/
structure S_law where
  mk ::
  v_script : (List Int)
  v_draws : (List Int)
  v_turn : Int
  v_number : Int
  v_other : Int
  v_told : (List (E2 Int Int))
  v_places : (List Int)
  v_rows : (List Int)
  v_small : Int
  v_add : Int
  v_shift : Int
  v_pairs : (List (T2 Int Int))
  v_one : Int
  v_two : Int
  v_due : (T2 Int Tx)
@[reducible] def sl_law_0 (s : S_law) : Sl := (fun s : S_law => ([some (Mo.b, enc s.v_script), some (Mo.a, enc s.v_draws), some (Mo.a, enc s.v_turn), some (Mo.a, enc s.v_number), some (Mo.a, enc s.v_other), some (Mo.o, enc s.v_told), some (Mo.a, enc s.v_places), none, none, none, none, none, none, none, none, none, none, none] : Sl)) s
@[reducible] def sl_law_1 (s : S_law) : Sl := (fun s : S_law => ([some (Mo.b, enc s.v_script), some (Mo.a, enc s.v_draws), some (Mo.a, enc s.v_turn), some (Mo.a, enc s.v_number), some (Mo.a, enc s.v_other), some (Mo.o, enc s.v_told), some (Mo.a, enc s.v_places), some (Mo.o, enc s.v_rows), none, none, none, none, none, none, none, none, none, none] : Sl)) s
@[reducible] def sl_law_2 (s : S_law) : Sl := (fun s : S_law => ([some (Mo.b, enc s.v_script), some (Mo.a, enc s.v_draws), some (Mo.a, enc s.v_turn), some (Mo.a, enc s.v_number), some (Mo.a, enc s.v_other), some (Mo.o, enc s.v_told), some (Mo.a, enc s.v_places), some (Mo.o, enc s.v_rows), some (Mo.a, enc s.v_small), some (Mo.a, enc s.v_add), some (Mo.a, enc s.v_shift), some (Mo.a, enc s.v_pairs), some (Mo.a, enc s.v_one), some (Mo.a, enc s.v_two), some (Mo.a, enc s.v_due), none, none, none] : Sl)) s
@[reducible] def sl_law_3 (s : S_law) : Sl := (fun s : S_law => ([some (Mo.b, enc s.v_script), some (Mo.a, enc s.v_draws), some (Mo.a, enc s.v_turn), some (Mo.a, enc s.v_number), some (Mo.a, enc s.v_other), some (Mo.o, enc s.v_told), some (Mo.a, enc s.v_places), some (Mo.o, enc s.v_rows), some (Mo.a, enc s.v_small), some (Mo.a, enc s.v_add), some (Mo.a, enc s.v_shift), some (Mo.a, enc s.v_pairs), some (Mo.a, enc s.v_one), some (Mo.a, enc s.v_two), none, none, none, none] : Sl)) s
@[reducible] def sl_law_4 (s : S_law) : Sl := (fun s : S_law => ([some (Mo.b, enc s.v_script), some (Mo.a, enc s.v_draws), some (Mo.a, enc s.v_turn), some (Mo.a, enc s.v_number), some (Mo.a, enc s.v_other), some (Mo.o, enc s.v_told), some (Mo.a, enc s.v_places), some (Mo.o, enc s.v_rows), some (Mo.a, enc s.v_small), some (Mo.a, enc s.v_add), some (Mo.a, enc s.v_shift), some (Mo.a, enc s.v_pairs), some (Mo.a, enc s.v_one), none, none, none, none, none] : Sl)) s
@[reducible] def sl_law_5 (s : S_law) : Sl := (fun s : S_law => ([some (Mo.b, enc s.v_script), some (Mo.a, enc s.v_draws), some (Mo.a, enc s.v_turn), some (Mo.a, enc s.v_number), some (Mo.a, enc s.v_other), some (Mo.o, enc s.v_told), some (Mo.a, enc s.v_places), some (Mo.o, enc s.v_rows), some (Mo.a, enc s.v_small), some (Mo.a, enc s.v_add), some (Mo.a, enc s.v_shift), some (Mo.a, enc s.v_pairs), none, none, none, none, none, none] : Sl)) s
@[reducible] def sl_law_6 (s : S_law) : Sl := (fun s : S_law => ([some (Mo.b, enc s.v_script), some (Mo.a, enc s.v_draws), some (Mo.a, enc s.v_turn), some (Mo.a, enc s.v_number), some (Mo.a, enc s.v_other), some (Mo.o, enc s.v_told), some (Mo.a, enc s.v_places), some (Mo.o, enc s.v_rows), some (Mo.a, enc s.v_small), some (Mo.a, enc s.v_add), some (Mo.a, enc s.v_shift), none, none, none, none, none, none, none] : Sl)) s
@[reducible] def sl_law_7 (s : S_law) : Sl := (fun s : S_law => ([some (Mo.b, enc s.v_script), some (Mo.a, enc s.v_draws), some (Mo.a, enc s.v_turn), some (Mo.a, enc s.v_number), some (Mo.a, enc s.v_other), some (Mo.o, enc s.v_told), some (Mo.a, enc s.v_places), some (Mo.o, enc s.v_rows), some (Mo.a, enc s.v_small), none, none, none, none, none, none, none, none, none] : Sl)) s
@[reducible] def sl_law_8 (s : S_law) : Sl := (fun s : S_law => ([some (Mo.b, enc s.v_script), some (Mo.a, enc s.v_draws), some (Mo.a, enc s.v_turn), some (Mo.a, enc s.v_number), some (Mo.a, enc s.v_other), some (Mo.o, enc s.v_told), none, none, none, none, none, none, none, none, none, none, none, none] : Sl)) s
@[reducible] def sl_law_9 (s : S_law) : Sl := (fun s : S_law => ([some (Mo.b, enc s.v_script), some (Mo.a, enc s.v_draws), some (Mo.a, enc s.v_turn), some (Mo.a, enc s.v_number), some (Mo.a, enc s.v_other), none, none, none, none, none, none, none, none, none, none, none, none, none] : Sl)) s
@[reducible] def sl_law_10 (s : S_law) : Sl := (fun s : S_law => ([some (Mo.b, enc s.v_script), some (Mo.a, enc s.v_draws), some (Mo.a, enc s.v_turn), some (Mo.a, enc s.v_number), none, none, none, none, none, none, none, none, none, none, none, none, none, none] : Sl)) s
@[reducible] def sl_law_11 (s : S_law) : Sl := (fun s : S_law => ([some (Mo.b, enc s.v_script), some (Mo.a, enc s.v_draws), some (Mo.a, enc s.v_turn), none, none, none, none, none, none, none, none, none, none, none, none, none, none, none] : Sl)) s
@[reducible] def sl_law_12 (s : S_law) : Sl := (fun s : S_law => ([some (Mo.b, enc s.v_script), some (Mo.a, enc s.v_draws), none, none, none, none, none, none, none, none, none, none, none, none, none, none, none, none] : Sl)) s
@[reducible] def sl_law_13 (s : S_law) : Sl := (fun s : S_law => ([some (Mo.b, enc s.v_script), none, none, none, none, none, none, none, none, none, none, none, none, none, none, none, none, none] : Sl)) s
def lp_law_0 (s : S_law) : Option (Out S_law Bool) :=
  seqO (((some (1 : Int)).bind fun x1010 => (((some s.v_draws).bind fun x1003 => ((some s.v_turn).bind fun x1004 => ((((some (100 : Int)).bind fun x990 => ((some (60000 : Int)).bind fun x988 => (some ([] : List Int)).bind fun x989 => some (x988 :: x989)).bind fun x991 => some (x990 :: x991)).bind fun x1001 => (((some s.v_draws).bind fun x994 => (((some (4 : Int)).bind fun x992 => (some s.v_turn).bind fun x993 => some (x992 + x993)).bind fun x995 => ((some (2 : Int)).bind fun x996 => (some ()).bind fun x997 => some (x996, x997)).bind fun x998 => some (x995, x998)).bind fun x999 => some (x994, x999)).bind fun x1000 => F__law_mix x1000.1 x1000.2.1 x1000.2.2.1).bind fun x1002 => atI x1001 x1002).bind fun x1005 => (some ()).bind fun x1006 => some (x1005, x1006)).bind fun x1007 => some (x1004, x1007)).bind fun x1008 => some (x1003, x1008)).bind fun x1009 => F__law_mix x1009.1 x1009.2.1 x1009.2.2.1).bind fun x1011 => some (x1010 + x1011)).bind fun x1012 => some (Out.nx (ρ := Bool) { s with v_number := x1012 })) fun s =>
  seqO ((((((some s.v_draws).bind fun x1073 => (((some (8 : Int)).bind fun x1071 => (some s.v_turn).bind fun x1072 => some (x1071 + x1072)).bind fun x1074 => ((some (60000 : Int)).bind fun x1075 => (some ()).bind fun x1076 => some (x1075, x1076)).bind fun x1077 => some (x1074, x1077)).bind fun x1078 => some (x1073, x1078)).bind fun x1079 => F__law_mix x1079.1 x1079.2.1 x1079.2.2.1).bind fun x1080 => (some (30000 : Int)).bind fun x1081 => some (x1080 - x1081)).bind fun x1097 => (((some (1 : Int)).bind fun x1084 => ((some (30 : Int)).bind fun x1082 => (some ([] : List Int)).bind fun x1083 => some (x1082 :: x1083)).bind fun x1085 => some (x1084 :: x1085)).bind fun x1095 => (((some s.v_draws).bind fun x1088 => (((some (12 : Int)).bind fun x1086 => (some s.v_turn).bind fun x1087 => some (x1086 + x1087)).bind fun x1089 => ((some (2 : Int)).bind fun x1090 => (some ()).bind fun x1091 => some (x1090, x1091)).bind fun x1092 => some (x1089, x1092)).bind fun x1093 => some (x1088, x1093)).bind fun x1094 => F__law_mix x1094.1 x1094.2.1 x1094.2.2.1).bind fun x1096 => atI x1095 x1096).bind fun x1098 => iMul x1097 x1098).bind fun x1099 => some (Out.nx (ρ := Bool) { s with v_other := x1099 })) fun s =>
  seqO (((((some s.v_number).bind fun x1113 => (some ()).bind fun x1114 => some (x1113, x1114)).bind fun x1115 => F_shifts x1115.1).bind fun x1116 => some ((List.map (fun t : (T2 Int Int) => E2.v t)) x1116)).bind fun x1117 => some (Out.nx (ρ := Bool) { s with v_told := x1117 })) fun s =>
  seqO ((((some s.v_told).bind fun x1126 => unE x1126).bind fun x1127 => (lNew x1127).bind fun x1128 => compO (fun s : ((S_law × Int) × Int) => some true) (fun s : ((S_law × Int) × Int) => some s.1.2) (fun t : (T2 Int Int) => (((s, t.a), t.b) : ((S_law × Int) × Int))) x1128).bind fun x1129 => some (Out.nx (ρ := Bool) { s with v_places := x1129 })) fun s =>
  seqO (((((((some s.v_told).bind fun x1181 => unE x1181).bind fun x1187 => (lNew x1187).bind fun x1188 => compO (fun s : ((S_law × Int) × Int) => some true) (fun s : ((S_law × Int) × Int) => (some s.2).bind fun x1185 => (((some s.1.2).bind fun x1182 => (some ()).bind fun x1183 => some (x1182, x1183)).bind fun x1184 => F__law_raised x1184.1).bind fun x1186 => iMul x1185 x1186) (fun t : (T2 Int Int) => (((s, t.a), t.b) : ((S_law × Int) × Int))) x1188).bind fun x1189 => some x1189.sum).bind fun x1190 => (some s.v_number).bind fun x1191 => some (!decide (x1190 = x1191))).bind fun x1205 => if x1205 = true then some true else (((some s.v_told).bind fun x1192 => unE x1192).bind fun x1201 => (lNew x1201).bind fun x1202 => compO (fun s : ((S_law × Int) × Int) => (some s.2).bind fun x1199 => ((some (1 : Int)).bind fun x1197 => (((some (1 : Int)).bind fun x1194 => some (-x1194)).bind fun x1195 => (some ([] : List Int)).bind fun x1196 => some (x1195 :: x1196)).bind fun x1198 => some (x1197 :: x1198)).bind fun x1200 => dNin x1199 x1200) (fun s : ((S_law × Int) × Int) => some s.2) (fun t : (T2 Int Int) => (((s, t.a), t.b) : ((S_law × Int) × Int))) x1202).bind fun x1203 => (some ([] : List Int)).bind fun x1204 => dNe x1203 x1204).bind fun x1209 => if x1209 = true then
  (seqO ((some false).bind fun x1208 => some (Out.rt x1208)) fun s =>
  some (Out.nx (ρ := Bool) s))
  else some (Out.nx (ρ := Bool) s)) fun s =>
  seqO ((((((some (1 : Int)).bind fun x1266 => ((some s.v_places).bind fun x1265 => some (x1265.length : Int)).bind fun x1267 => rng2 x1266 x1267).bind fun x1278 => (lNew x1278).bind fun x1279 => compO (fun s : (S_law × Int) => (((some s.1.v_places).bind fun x1268 => (some s.2).bind fun x1269 => atI x1268 x1269).bind fun x1274 => ((some s.1.v_places).bind fun x1272 => ((some s.2).bind fun x1270 => (some (1 : Int)).bind fun x1271 => some (x1270 - x1271)).bind fun x1273 => atI x1272 x1273).bind fun x1275 => some (x1274 - x1275)).bind fun x1276 => (some (2 : Int)).bind fun x1277 => some (decide (x1276 < x1277))) (fun s : (S_law × Int) => some s.2) (fun t : Int => ((s, t) : (S_law × Int))) x1279).bind fun x1280 => (some ([] : List Int)).bind fun x1281 => dNe x1280 x1281).bind fun x1291 => if x1291 = true then some true else ((some s.v_number).bind fun x1282 => (some (100 : Int)).bind fun x1283 => some (decide (x1282 ≤ x1283))).bind fun x1290 => if x1290 = true then ((some s.v_told).bind fun x1284 => some (x1284.length : Int)).bind fun x1288 => (((some s.v_number).bind fun x1285 => (some ()).bind fun x1286 => some (x1285, x1286)).bind fun x1287 => F__law_fewest x1287.1).bind fun x1289 => some (!decide (x1288 = x1289)) else some false).bind fun x1295 => if x1295 = true then
  (seqO ((some false).bind fun x1294 => some (Out.rt x1294)) fun s =>
  some (Out.nx (ρ := Bool) s))
  else some (Out.nx (ρ := Bool) s)) fun s =>
  seqO ((((some s.v_number).bind fun x1313 => ((some s.v_other).bind fun x1314 => (some ()).bind fun x1315 => some (x1314, x1315)).bind fun x1316 => some (x1313, x1316)).bind fun x1317 => F_by_shifts x1317.1 x1317.2.1).bind fun x1318 => some (Out.nx (ρ := Bool) { s with v_rows := x1318 })) fun s =>
  seqO (((((some s.v_rows).bind fun x1360 => rShow x1360).bind fun x1372 => ((((some s.v_told).bind fun x1361 => unE x1361).bind fun x1369 => (lNew x1369).bind fun x1370 => compO (fun s : ((S_law × Int) × Int) => some true) (fun s : ((S_law × Int) × Int) => ((some s.2).bind fun x1365 => (((some s.1.2).bind fun x1362 => (some ()).bind fun x1363 => some (x1362, x1363)).bind fun x1364 => F__law_raised x1364.1).bind fun x1366 => iMul x1365 x1366).bind fun x1367 => (some s.1.1.v_other).bind fun x1368 => iMul x1367 x1368) (fun t : (T2 Int Int) => (((s, t.a), t.b) : ((S_law × Int) × Int))) x1370).bind fun x1371 => rShow x1371).bind fun x1373 => some (!decide (x1372 = x1373))).bind fun x1379 => if x1379 = true then some true else ((some s.v_rows).bind fun x1374 => some x1374.sum).bind fun x1377 => ((some s.v_number).bind fun x1375 => (some s.v_other).bind fun x1376 => iMul x1375 x1376).bind fun x1378 => some (!decide (x1377 = x1378))).bind fun x1383 => if x1383 = true then
  (seqO ((some false).bind fun x1382 => some (Out.rt x1382)) fun s =>
  some (Out.nx (ρ := Bool) s))
  else some (Out.nx (ρ := Bool) s)) fun s =>
  seqO (((((((some (2 : Int)).bind fun x1417 => (some s.v_number).bind fun x1418 => iMul x1417 x1418).bind fun x1419 => (some ()).bind fun x1420 => some (x1419, x1420)).bind fun x1421 => F_shifts x1421.1).bind fun x1422 => rShow x1422).bind fun x1431 => ((((some s.v_told).bind fun x1423 => unE x1423).bind fun x1428 => (lNew x1428).bind fun x1429 => compO (fun s : ((S_law × Int) × Int) => some true) (fun s : ((S_law × Int) × Int) => ((some s.1.2).bind fun x1424 => (some (1 : Int)).bind fun x1425 => some (x1424 + x1425)).bind fun x1426 => (some s.2).bind fun x1427 => some (T2.mk x1426 x1427)) (fun t : (T2 Int Int) => (((s, t.a), t.b) : ((S_law × Int) × Int))) x1429).bind fun x1430 => rShow x1430).bind fun x1432 => some (!decide (x1431 = x1432))).bind fun x1436 => if x1436 = true then
  (seqO ((some false).bind fun x1435 => some (Out.rt x1435)) fun s =>
  some (Out.nx (ρ := Bool) s))
  else some (Out.nx (ρ := Bool) s)) fun s =>
  seqO ((some (E2.e : (E2 Int Int))).bind fun x1441 => (push s.v_told x1441).bind fun x1442 => some (Out.nx (ρ := Bool) { s with v_told := x1442 })) fun s =>
  seqO ((some (0 : Int)).bind fun x1447 => (push s.v_rows x1447).bind fun x1448 => some (Out.nx (ρ := Bool) { s with v_rows := x1448 })) fun s =>
  seqO (((((((some s.v_number).bind fun x1498 => (some ()).bind fun x1499 => some (x1498, x1499)).bind fun x1500 => F_shifts x1500.1).bind fun x1506 => some ((List.map (fun t : (T2 Int Int) => E2.v t)) x1506)).bind fun x1507 => ((some s.v_told).bind fun x1503 => (some (none : Option Int)).bind fun x1504 => (((some (1 : Int)).bind fun x1501 => some (-x1501)).bind fun x1502 => some (some x1502)).bind fun x1505 => some (cut x1503 x1504 x1505)).bind fun x1508 => dNe x1507 x1508).bind fun x1521 => if x1521 = true then some true else (((some s.v_number).bind fun x1509 => ((some s.v_other).bind fun x1510 => (some ()).bind fun x1511 => some (x1510, x1511)).bind fun x1512 => some (x1509, x1512)).bind fun x1513 => F_by_shifts x1513.1 x1513.2.1).bind fun x1519 => ((some s.v_rows).bind fun x1516 => (some (none : Option Int)).bind fun x1517 => (((some (1 : Int)).bind fun x1514 => some (-x1514)).bind fun x1515 => some (some x1515)).bind fun x1518 => some (cut x1516 x1517 x1518)).bind fun x1520 => dNe x1519 x1520).bind fun x1525 => if x1525 = true then
  (seqO ((some false).bind fun x1524 => some (Out.rt x1524)) fun s =>
  some (Out.nx (ρ := Bool) s))
  else some (Out.nx (ρ := Bool) s)) fun s =>
  seqO (((some (1 : Int)).bind fun x1559 => (((some s.v_draws).bind fun x1552 => (((some (16 : Int)).bind fun x1550 => (some s.v_turn).bind fun x1551 => some (x1550 + x1551)).bind fun x1553 => ((some (40 : Int)).bind fun x1554 => (some ()).bind fun x1555 => some (x1554, x1555)).bind fun x1556 => some (x1553, x1556)).bind fun x1557 => some (x1552, x1557)).bind fun x1558 => F__law_mix x1558.1 x1558.2.1 x1558.2.2.1).bind fun x1560 => some (x1559 + x1560)).bind fun x1561 => some (Out.nx (ρ := Bool) { s with v_small := x1561 })) fun s =>
  seqO ((((some s.v_draws).bind fun x1634 => (((some (20 : Int)).bind fun x1632 => (some s.v_turn).bind fun x1633 => some (x1632 + x1633)).bind fun x1635 => ((some (101 : Int)).bind fun x1636 => (some ()).bind fun x1637 => some (x1636, x1637)).bind fun x1638 => some (x1635, x1638)).bind fun x1639 => some (x1634, x1639)).bind fun x1640 => F__law_mix x1640.1 x1640.2.1 x1640.2.2.1).bind fun x1665 => (((some s.v_draws).bind fun x1658 => (((some (24 : Int)).bind fun x1641 => (some s.v_turn).bind fun x1642 => some (x1641 + x1642)).bind fun x1659 => ((((some (101 : Int)).bind fun x1645 => ((some (10 : Int)).bind fun x1643 => (some ([] : List Int)).bind fun x1644 => some (x1643 :: x1644)).bind fun x1646 => some (x1645 :: x1646)).bind fun x1656 => (((some s.v_draws).bind fun x1649 => (((some (28 : Int)).bind fun x1647 => (some s.v_turn).bind fun x1648 => some (x1647 + x1648)).bind fun x1650 => ((some (2 : Int)).bind fun x1651 => (some ()).bind fun x1652 => some (x1651, x1652)).bind fun x1653 => some (x1650, x1653)).bind fun x1654 => some (x1649, x1654)).bind fun x1655 => F__law_mix x1655.1 x1655.2.1 x1655.2.2.1).bind fun x1657 => atI x1656 x1657).bind fun x1660 => (some ()).bind fun x1661 => some (x1660, x1661)).bind fun x1662 => some (x1659, x1662)).bind fun x1663 => some (x1658, x1663)).bind fun x1664 => F__law_mix x1664.1 x1664.2.1 x1664.2.2.1).bind fun x1666 => some (Out.nx (ρ := Bool) { s with v_add := x1665, v_shift := x1666 })) fun s =>
  seqO ((((some s.v_small).bind fun x1675 => (some ()).bind fun x1676 => some (x1675, x1676)).bind fun x1677 => F_shifts x1677.1).bind fun x1678 => some (Out.nx (ρ := Bool) { s with v_pairs := x1678 })) fun s =>
  seqO (((some s.v_add).bind fun x1694 => (((some s.v_small).bind fun x1691 => (some ()).bind fun x1692 => some (x1691, x1692)).bind fun x1693 => F_least_steps x1693.1).bind fun x1695 => iMul x1694 x1695).bind fun x1696 => some (Out.nx (ρ := Bool) { s with v_one := x1696 })) fun s =>
  seqO ((((some s.v_add).bind fun x1730 => (((some s.v_pairs).bind fun x1727 => some (x1727.length : Int)).bind fun x1728 => (some (1 : Int)).bind fun x1729 => some (x1728 - x1729)).bind fun x1731 => iMul x1730 x1731).bind fun x1739 => ((some s.v_shift).bind fun x1737 => (((some s.v_pairs).bind fun x1734 => (lNew x1734).bind fun x1735 => compO (fun s : ((S_law × Int) × Int) => (some s.1.2).bind fun x1732 => (some (0 : Int)).bind fun x1733 => some (decide (x1732 > x1733))) (fun s : ((S_law × Int) × Int) => some s.1.2) (fun t : (T2 Int Int) => (((s, t.a), t.b) : ((S_law × Int) × Int))) x1735).bind fun x1736 => some (x1736.length : Int)).bind fun x1738 => iMul x1737 x1738).bind fun x1740 => some (x1739 + x1740)).bind fun x1741 => some (Out.nx (ρ := Bool) { s with v_two := x1741 })) fun s =>
  seqO (((some s.v_one).bind fun x1748 => (some (⟨[99, 104, 97, 105, 110]⟩ : Tx)).bind fun x1749 => some (T2.mk x1748 x1749)).bind fun x1750 => some (Out.nx (ρ := Bool) { s with v_due := x1750 })) fun s =>
  seqO (((some s.v_two).bind fun x1758 => (some s.v_one).bind fun x1759 => some (decide (x1758 < x1759))).bind fun x1769 => if x1769 = true then
  (seqO (((some s.v_two).bind fun x1766 => (some (⟨[115, 104, 105, 102, 116, 115]⟩ : Tx)).bind fun x1767 => some (T2.mk x1766 x1767)).bind fun x1768 => some (Out.nx (ρ := Bool) { s with v_due := x1768 })) fun s =>
  some (Out.nx (ρ := Bool) s))
  else some (Out.nx (ρ := Bool) s)) fun s =>
  seqO ((((((some s.v_small).bind fun x1793 => ((some s.v_add).bind fun x1794 => ((some s.v_shift).bind fun x1795 => (some ()).bind fun x1796 => some (x1795, x1796)).bind fun x1797 => some (x1794, x1797)).bind fun x1798 => some (x1793, x1798)).bind fun x1799 => F_cheapest x1799.1 x1799.2.1 x1799.2.2.1).bind fun x1800 => rShow x1800).bind fun x1802 => ((some s.v_due).bind fun x1801 => rShow x1801).bind fun x1803 => some (!decide (x1802 = x1803))).bind fun x1807 => if x1807 = true then
  (seqO ((some false).bind fun x1806 => some (Out.rt x1806)) fun s =>
  some (Out.nx (ρ := Bool) s))
  else some (Out.nx (ρ := Bool) s)) fun s =>
  some (Out.nx (ρ := Bool) { s with v_turn := 0, v_number := 0, v_other := 0, v_told := [], v_places := [], v_rows := [], v_small := 0, v_add := 0, v_shift := 0, v_pairs := [], v_one := 0, v_two := 0, v_due := ⟨0, ⟨[]⟩⟩ })
def fb_law (s : S_law) : Option (Out S_law Bool) :=
  seqO ((((some s.v_script).bind fun x350 => (some ()).bind fun x351 => some (x350, x351)).bind fun x352 => F__law_draws x352.1).bind fun x353 => some (Out.nx (ρ := Bool) { s with v_draws := x353 })) fun s =>
  seqO (((some (4 : Int)).bind fun x937 => rng1 x937).bind fun x1808 => forO (fun (s : S_law) (t : Int) => { s with v_turn := t }) lp_law_0 x1808 s) fun s =>
  seqO ((((((some (7 : Int)).bind fun x1901 => (some ()).bind fun x1902 => some (x1901, x1902)).bind fun x1903 => F_shifts x1903.1).bind fun x1918 => (((some (0 : Int)).bind fun x1914 => ((some (1 : Int)).bind fun x1913 => some (-x1913)).bind fun x1915 => some (T2.mk x1914 x1915)).bind fun x1916 => (((some (3 : Int)).bind fun x1909 => (some (1 : Int)).bind fun x1910 => some (T2.mk x1909 x1910)).bind fun x1911 => (some ([] : List (T2 Int Int))).bind fun x1912 => some (x1911 :: x1912)).bind fun x1917 => some (x1916 :: x1917)).bind fun x1919 => dEq x1918 x1919).bind fun x1945 => if x1945 = true then ((((some (1 : Int)).bind fun x1920 => ((some (5 : Int)).bind fun x1921 => ((some (5 : Int)).bind fun x1922 => (some ()).bind fun x1923 => some (x1922, x1923)).bind fun x1924 => some (x1921, x1924)).bind fun x1925 => some (x1920, x1925)).bind fun x1926 => F_cheapest x1926.1 x1926.2.1 x1926.2.2.1).bind fun x1929 => ((some (0 : Int)).bind fun x1927 => (some (⟨[99, 104, 97, 105, 110]⟩ : Tx)).bind fun x1928 => some (T2.mk x1927 x1928)).bind fun x1930 => dEq x1929 x1930).bind fun x1944 => if x1944 = true then (((some (3 : Int)).bind fun x1931 => ((some (5 : Int)).bind fun x1932 => (some ()).bind fun x1933 => some (x1932, x1933)).bind fun x1934 => some (x1931, x1934)).bind fun x1935 => F_by_shifts x1935.1 x1935.2.1).bind fun x1942 => (((some (5 : Int)).bind fun x1939 => some (-x1939)).bind fun x1940 => ((some (20 : Int)).bind fun x1937 => (some ([] : List Int)).bind fun x1938 => some (x1937 :: x1938)).bind fun x1941 => some (x1940 :: x1941)).bind fun x1943 => dEq x1942 x1943 else some false else some false).bind fun x1946 => some (Out.rt x1946)) fun s =>
  some (Out.nx (ρ := Bool) s)
def F_law (v_script : (List Int)) : Option Bool := outF none (fb_law (⟨v_script, [], 0, 0, 0, [], [], [], 0, 0, 0, [], 0, 0, ⟨0, ⟨[]⟩⟩⟩ : S_law))
@[reducible] def sa_law (a : (List Int) × Unit) : Sl := [some (Mo.b, enc a.1), none, none, none, none, none, none, none, none, none, none, none, none, none, none, none, none, none]
@[reducible] def in_law (a : (List Int) × Unit) : S_law := ⟨a.1, [], 0, 0, 0, [], [], [], 0, 0, 0, [], 0, 0, ⟨0, ⟨[]⟩⟩⟩
abbrev N_law : List Str := ["script", "draws", "turn", "number", "other", "told", "places", "rows", "small", "add", "shift", "pairs", "one", "two", "due", "place", "sign", "k"]
abbrev s_law : Stmt := topS 25
theorem sc_law : FnScope N_law ["script"] (defScope s_law) := ⟨rfl, rfl, rfl, by decide +kernel, rfl, by decide +kernel, by decide +kernel⟩
theorem ok_law (T : Top K mg) : FnAt P w K mg base T.a_law T.d_law ["script"] (spF K N_law 1 sa_law .a (fun a => F_law a.1)) := by
  have nd := sc_law.nd
  refine fnAt_v (k := 44) (slE := sl_law_13) (fb := fun a => fb_law (in_law a)) none T.F_law sc_law ⟨rfl, by decide, by decide⟩ rfl (fun _ h => nomatch h) (.inl rfl) (fun _ => rfl) fun cdv s H E hr => ?_
  exact (bv_wk (sl'' := sl_law_13) (h := in_law) (fun _ => Wk.refl _)
  (bv_cons (sl'' := sl_law_12) (sv_set (i := 1) (fun (s : S_law) t => { s with v_draws := t }) (fun _ _ => rfl) nd (PV.fa (pv_callf (ok__law_draws T) (hr.mono (by decide)) (by rfl) T.m__law_draws T.F__law_draws.kp T.b__law_draws (av_b (pv_varb (i := 0) (fun s : S_law => s.v_script) (fun _ => rfl)) av_nil) (fun _ => ⟨5, rfl, rfl⟩))))
  (bv_cons (sl'' := sl_law_12) (sv_for (sl := sl_law_12) PassesOwn.never (piv_range1 (by rfl) T.z_range (PV.ab pv_int)) (gv_name (i := 2) (slb := sl_law_11) (set := (fun (s : S_law) (t : Int) => { s with v_turn := t })) (fun _ _ => rfl) nd)
  (bv_cons (sl'' := sl_law_10) (sv_set (i := 3) (fun (s : S_law) t => { s with v_number := t }) (fun _ _ => rfl) nd (pv_add (PV.ab pv_int) (PV.ab (pv_calla (ok__law_mix T) (hr.mono (by decide)) (by rfl) T.m__law_mix T.F__law_mix.kp T.b__law_mix (av_b (PV.ab (pv_var (i := 1) (fun s : S_law => s.v_draws) (fun _ => rfl))) (av_a (pv_var (i := 2) (fun s : S_law => s.v_turn) (fun _ => rfl)) (av_a (pv_ix (PV.fb (pv_lst (pal_cons pv_int (pal_cons pv_int (pal_nil (τ := Int)))))) (PV.ab (pv_calla (ok__law_mix T) (hr.mono (by decide)) (by rfl) T.m__law_mix T.F__law_mix.kp T.b__law_mix (av_b (PV.ab (pv_var (i := 1) (fun s : S_law => s.v_draws) (fun _ => rfl))) (av_a (pv_add (PV.ab pv_int) (PV.ab (pv_var (i := 2) (fun s : S_law => s.v_turn) (fun _ => rfl)))) (av_a pv_int av_nil))) (fun _ => ⟨1, rfl, rfl⟩)))) av_nil))) (fun _ => ⟨1, rfl, rfl⟩)))))
  (bv_cons (sl'' := sl_law_9) (sv_set (i := 4) (fun (s : S_law) t => { s with v_other := t }) (fun _ _ => rfl) nd (pv_mul (PV.ab (pv_sub (PV.ab (pv_calla (ok__law_mix T) (hr.mono (by decide)) (by rfl) T.m__law_mix T.F__law_mix.kp T.b__law_mix (av_b (PV.ab (pv_var (i := 1) (fun s : S_law => s.v_draws) (fun _ => rfl))) (av_a (pv_add (PV.ab pv_int) (PV.ab (pv_var (i := 2) (fun s : S_law => s.v_turn) (fun _ => rfl)))) (av_a pv_int av_nil))) (fun _ => ⟨1, rfl, rfl⟩))) (PV.ab pv_int))) (PV.ab (pv_ix (PV.fb (pv_lst (pal_cons pv_int (pal_cons pv_int (pal_nil (τ := Int)))))) (PV.ab (pv_calla (ok__law_mix T) (hr.mono (by decide)) (by rfl) T.m__law_mix T.F__law_mix.kp T.b__law_mix (av_b (PV.ab (pv_var (i := 1) (fun s : S_law => s.v_draws) (fun _ => rfl))) (av_a (pv_add (PV.ab pv_int) (PV.ab (pv_var (i := 2) (fun s : S_law => s.v_turn) (fun _ => rfl)))) (av_a pv_int av_nil))) (fun _ => ⟨1, rfl, rfl⟩)))))))
  (bv_cons (sl'' := sl_law_8) (sv_own (i := 5) (fun (s : S_law) t => { s with v_told := t }) (fun _ _ => rfl) nd (PV.co (α := (List (T2 Int Int))) (β := (List (E2 Int Int))) (List.map (fun t : (T2 Int Int) => E2.v t)) (co_map (fun _ => rfl)) (pv_callf (ok_shifts T) (hr.mono (by decide)) (by rfl) T.m_shifts T.F_shifts.kp T.b_shifts (av_a (pv_var (i := 3) (fun s : S_law => s.v_number) (fun _ => rfl)) av_nil) (fun _ => ⟨0, rfl, rfl⟩))))
  (bv_cons (sl'' := sl_law_0) (sv_set (i := 6) (fun (s : S_law) t => { s with v_places := t }) (fun _ _ => rfl) nd (PV.fa (pv_lc (own := [("place", 15), ("sign", 16)]) (js := [15, 16]) (slb := (fun s : ((S_law × Int) × Int) => ([some (Mo.b, enc s.1.1.v_script), some (Mo.a, enc s.1.1.v_draws), some (Mo.a, enc s.1.1.v_turn), some (Mo.a, enc s.1.1.v_number), some (Mo.a, enc s.1.1.v_other), some (Mo.b, enc s.1.1.v_told), none, none, none, none, none, none, none, none, none, some (Mo.a, enc s.1.2), some (Mo.a, enc s.2), none] : Sl))) (set := fun (g : S_law) (t : (T2 Int Int)) => (((g, t.a), t.b) : ((S_law × Int) × Int))) nd (piv_listb (PV.pc (fun t : (List (E2 Int Int)) => unE t) unE_enc (pv_varo (i := 5) (fun s : S_law => s.v_told) (fun _ => rfl)))) (blkOk_by (N := N_law) (sc := defScope s_law) (by decide +kernel)) (by decide) (fun _ _ _ _ _ => (gv_tup (fun t : (T2 Int Int) => [enc t.a, enc t.b]) (fun _ => rfl) (fun _ => rfl) (gvs_cons (p1 := fun t : (T2 Int Int) => t.a) (p2 := fun t : (T2 Int Int) => t) (gv_name (i := 15) (slb := (fun s : (S_law × Int) => ([some (Mo.b, enc s.1.v_script), some (Mo.a, enc s.1.v_draws), some (Mo.a, enc s.1.v_turn), some (Mo.a, enc s.1.v_number), some (Mo.a, enc s.1.v_other), some (Mo.b, enc s.1.v_told), none, none, none, none, none, none, none, none, none, some (Mo.a, enc s.2), none, none] : Sl))) (set := fun (g : S_law) (t : Int) => ((g, t) : (S_law × Int))) (fun _ _ => rfl) nd) (gvs_cons (p1 := fun t : (T2 Int Int) => t.b) (p2 := fun t : (T2 Int Int) => t) (gv_name (i := 16) (slb := (fun s : ((S_law × Int) × Int) => ([some (Mo.b, enc s.1.1.v_script), some (Mo.a, enc s.1.1.v_draws), some (Mo.a, enc s.1.1.v_turn), some (Mo.a, enc s.1.1.v_number), some (Mo.a, enc s.1.1.v_other), some (Mo.b, enc s.1.1.v_told), none, none, none, none, none, none, none, none, none, some (Mo.a, enc s.1.2), some (Mo.a, enc s.2), none] : Sl))) (set := fun (g : (S_law × Int)) (t : Int) => ((g, t) : ((S_law × Int) × Int))) (fun _ _ => rfl) nd) gvs_nil)))) (fun _ _ _ _ _ => pbs_nil) (fun _ _ _ _ _ => (pv_var (i := 15) (fun s : ((S_law × Int) × Int) => s.1.2) (fun _ => rfl))))))
  (bv_cons (sl'' := sl_law_0) (sv_if (PBw.pb (pb_or (pb_cmp c_neS (PV.ab (pv_sum (by rfl) T.z_sum (PV.fb (pv_lc (own := [("place", 15), ("sign", 16)]) (js := [15, 16]) (slb := (fun s : ((S_law × Int) × Int) => ([some (Mo.b, enc s.1.1.v_script), some (Mo.a, enc s.1.1.v_draws), some (Mo.a, enc s.1.1.v_turn), some (Mo.a, enc s.1.1.v_number), some (Mo.a, enc s.1.1.v_other), some (Mo.b, enc s.1.1.v_told), some (Mo.a, enc s.1.1.v_places), none, none, none, none, none, none, none, none, some (Mo.a, enc s.1.2), some (Mo.a, enc s.2), none] : Sl))) (set := fun (g : S_law) (t : (T2 Int Int)) => (((g, t.a), t.b) : ((S_law × Int) × Int))) nd (piv_listb (PV.pc (fun t : (List (E2 Int Int)) => unE t) unE_enc (pv_varo (i := 5) (fun s : S_law => s.v_told) (fun _ => rfl)))) (blkOk_by (N := N_law) (sc := defScope s_law) (by decide +kernel)) (by decide) (fun _ _ _ _ _ => (gv_tup (fun t : (T2 Int Int) => [enc t.a, enc t.b]) (fun _ => rfl) (fun _ => rfl) (gvs_cons (p1 := fun t : (T2 Int Int) => t.a) (p2 := fun t : (T2 Int Int) => t) (gv_name (i := 15) (slb := (fun s : (S_law × Int) => ([some (Mo.b, enc s.1.v_script), some (Mo.a, enc s.1.v_draws), some (Mo.a, enc s.1.v_turn), some (Mo.a, enc s.1.v_number), some (Mo.a, enc s.1.v_other), some (Mo.b, enc s.1.v_told), some (Mo.a, enc s.1.v_places), none, none, none, none, none, none, none, none, some (Mo.a, enc s.2), none, none] : Sl))) (set := fun (g : S_law) (t : Int) => ((g, t) : (S_law × Int))) (fun _ _ => rfl) nd) (gvs_cons (p1 := fun t : (T2 Int Int) => t.b) (p2 := fun t : (T2 Int Int) => t) (gv_name (i := 16) (slb := (fun s : ((S_law × Int) × Int) => ([some (Mo.b, enc s.1.1.v_script), some (Mo.a, enc s.1.1.v_draws), some (Mo.a, enc s.1.1.v_turn), some (Mo.a, enc s.1.1.v_number), some (Mo.a, enc s.1.1.v_other), some (Mo.b, enc s.1.1.v_told), some (Mo.a, enc s.1.1.v_places), none, none, none, none, none, none, none, none, some (Mo.a, enc s.1.2), some (Mo.a, enc s.2), none] : Sl))) (set := fun (g : (S_law × Int)) (t : Int) => ((g, t) : ((S_law × Int) × Int))) (fun _ _ => rfl) nd) gvs_nil)))) (fun _ _ _ _ _ => pbs_nil) (fun _ _ _ _ _ => (pv_mul (PV.ab (pv_var (i := 16) (fun s : ((S_law × Int) × Int) => s.2) (fun _ => rfl))) (PV.ab (pv_calla (ok__law_raised T) (hr.mono (by decide)) (by rfl) T.m__law_raised T.F__law_raised.kp T.b__law_raised (av_a (pv_var (i := 15) (fun s : ((S_law × Int) × Int) => s.1.2) (fun _ => rfl)) av_nil) (fun _ => ⟨2, rfl, rfl⟩))))))))) (PV.ab (pv_var (i := 3) (fun s : S_law => s.v_number) (fun _ => rfl)))) (pb_or1 (pb_cmp (c_neD (hu64 hr)) (PV.fb (pv_lc (own := [("place", 15), ("sign", 16)]) (js := [15, 16]) (slb := (fun s : ((S_law × Int) × Int) => ([some (Mo.b, enc s.1.1.v_script), some (Mo.a, enc s.1.1.v_draws), some (Mo.a, enc s.1.1.v_turn), some (Mo.a, enc s.1.1.v_number), some (Mo.a, enc s.1.1.v_other), some (Mo.b, enc s.1.1.v_told), some (Mo.a, enc s.1.1.v_places), none, none, none, none, none, none, none, none, some (Mo.a, enc s.1.2), some (Mo.a, enc s.2), none] : Sl))) (set := fun (g : S_law) (t : (T2 Int Int)) => (((g, t.a), t.b) : ((S_law × Int) × Int))) nd (piv_listb (PV.pc (fun t : (List (E2 Int Int)) => unE t) unE_enc (pv_varo (i := 5) (fun s : S_law => s.v_told) (fun _ => rfl)))) (blkOk_by (N := N_law) (sc := defScope s_law) (by decide +kernel)) (by decide) (fun _ _ _ _ _ => (gv_tup (fun t : (T2 Int Int) => [enc t.a, enc t.b]) (fun _ => rfl) (fun _ => rfl) (gvs_cons (p1 := fun t : (T2 Int Int) => t.a) (p2 := fun t : (T2 Int Int) => t) (gv_name (i := 15) (slb := (fun s : (S_law × Int) => ([some (Mo.b, enc s.1.v_script), some (Mo.a, enc s.1.v_draws), some (Mo.a, enc s.1.v_turn), some (Mo.a, enc s.1.v_number), some (Mo.a, enc s.1.v_other), some (Mo.b, enc s.1.v_told), some (Mo.a, enc s.1.v_places), none, none, none, none, none, none, none, none, some (Mo.a, enc s.2), none, none] : Sl))) (set := fun (g : S_law) (t : Int) => ((g, t) : (S_law × Int))) (fun _ _ => rfl) nd) (gvs_cons (p1 := fun t : (T2 Int Int) => t.b) (p2 := fun t : (T2 Int Int) => t) (gv_name (i := 16) (slb := (fun s : ((S_law × Int) × Int) => ([some (Mo.b, enc s.1.1.v_script), some (Mo.a, enc s.1.1.v_draws), some (Mo.a, enc s.1.1.v_turn), some (Mo.a, enc s.1.1.v_number), some (Mo.a, enc s.1.1.v_other), some (Mo.b, enc s.1.1.v_told), some (Mo.a, enc s.1.1.v_places), none, none, none, none, none, none, none, none, some (Mo.a, enc s.1.2), some (Mo.a, enc s.2), none] : Sl))) (set := fun (g : (S_law × Int)) (t : Int) => ((g, t) : ((S_law × Int) × Int))) (fun _ _ => rfl) nd) gvs_nil)))) (fun _ _ _ _ _ => pbs_one (pb_cmp (c_nin (hu65 hr)) (PV.ab (pv_var (i := 16) (fun s : ((S_law × Int) × Int) => s.2) (fun _ => rfl))) (PV.fb (pv_lst (pal_cons pv_int (pal_cons (pv_neg (PV.ab pv_int)) (pal_nil (τ := Int)))))))) (fun _ _ _ _ _ => (pv_var (i := 16) (fun s : ((S_law × Int) × Int) => s.2) (fun _ => rfl))))) (PV.fb (pv_lst (pal_nil (τ := Int))))))))
  (bv_cons (sl'' := sl_law_0) (sv_ret pv_bool)
  (bv_nil (sl := sl_law_0) (h := fun s => s) (fun _ => Wk.refl _)))
  (bv_nil (h := fun (s : S_law) => (s : S_law)) (fun _ => (.s (.s (.s (.s (.s (.s (.s (.s (.s (.s (.s (.s (.s (.s (.s (.s (.s (.s .nil)))))))))))))))))))))
  (bv_cons (sl'' := sl_law_0) (sv_if (PBw.pb (pb_or (pb_cmp (c_neD (hu64 hr)) (PV.fb (pv_lc (own := [("k", 17)]) (js := [17]) (slb := (fun s : (S_law × Int) => ([some (Mo.b, enc s.1.v_script), some (Mo.a, enc s.1.v_draws), some (Mo.a, enc s.1.v_turn), some (Mo.a, enc s.1.v_number), some (Mo.a, enc s.1.v_other), some (Mo.b, enc s.1.v_told), some (Mo.a, enc s.1.v_places), none, none, none, none, none, none, none, none, none, none, some (Mo.a, enc s.2)] : Sl))) (set := fun (g : S_law) (t : Int) => ((g, t) : (S_law × Int))) nd (IV.ab (piv_range2 (by rfl) T.z_range (PV.ab pv_int) (PV.ab (pv_len (by rfl) T.z_len (PV.ab (pv_var (i := 6) (fun s : S_law => s.v_places) (fun _ => rfl))))))) (blkOk_by (N := N_law) (sc := defScope s_law) (by decide +kernel)) (by decide) (fun _ _ _ _ _ => (gv_name (i := 17) (fun _ _ => rfl) nd)) (fun _ _ _ _ _ => pbs_one (pb_cmp c_lt (PV.ab (pv_sub (PV.ab (pv_ix (PV.ab (pv_var (i := 6) (fun s : (S_law × Int) => s.1.v_places) (fun _ => rfl))) (PV.ab (pv_var (i := 17) (fun s : (S_law × Int) => s.2) (fun _ => rfl))))) (PV.ab (pv_ix (PV.ab (pv_var (i := 6) (fun s : (S_law × Int) => s.1.v_places) (fun _ => rfl))) (PV.ab (pv_sub (PV.ab (pv_var (i := 17) (fun s : (S_law × Int) => s.2) (fun _ => rfl))) (PV.ab pv_int))))))) (PV.ab pv_int))) (fun _ _ _ _ _ => (pv_var (i := 17) (fun s : (S_law × Int) => s.2) (fun _ => rfl))))) (PV.fb (pv_lst (pal_nil (τ := Int))))) (pb_or1 (PBw.pb (pb_and (pb_cmp c_le (PV.ab (pv_var (i := 3) (fun s : S_law => s.v_number) (fun _ => rfl))) (PV.ab pv_int)) (pb_and1 (pb_cmp c_neS (PV.ab (pv_len (by rfl) T.z_len (pv_varo (i := 5) (fun s : S_law => s.v_told) (fun _ => rfl)))) (PV.ab (pv_calla (ok__law_fewest T) (hr.mono (by decide)) (by rfl) T.m__law_fewest T.F__law_fewest.kp T.b__law_fewest (av_a (pv_var (i := 3) (fun s : S_law => s.v_number) (fun _ => rfl)) av_nil) (fun _ => ⟨6, rfl, rfl⟩))))))))))
  (bv_cons (sl'' := sl_law_0) (sv_ret pv_bool)
  (bv_nil (sl := sl_law_0) (h := fun s => s) (fun _ => Wk.refl _)))
  (bv_nil (h := fun (s : S_law) => (s : S_law)) (fun _ => (.s (.s (.s (.s (.s (.s (.s (.s (.s (.s (.s (.s (.s (.s (.s (.s (.s (.s .nil)))))))))))))))))))))
  (bv_cons (sl'' := sl_law_1) (sv_own (i := 7) (fun (s : S_law) t => { s with v_rows := t }) (fun _ _ => rfl) nd (pv_callf (ok_by_shifts T) (hr.mono (by decide)) (by rfl) T.m_by_shifts T.F_by_shifts.kp T.b_by_shifts (av_a (pv_var (i := 3) (fun s : S_law => s.v_number) (fun _ => rfl)) (av_a (pv_var (i := 4) (fun s : S_law => s.v_other) (fun _ => rfl)) av_nil)) (fun _ => ⟨2, rfl, rfl⟩)))
  (bv_cons (sl'' := sl_law_1) (sv_if (PBw.pb (pb_or (pb_cmp c_neS (PV.ab (pv_repr rfl (hu64 hr) (by rfl) T.z_repr (pv_varo (i := 7) (fun s : S_law => s.v_rows) (fun _ => rfl)))) (PV.ab (pv_repr rfl (hu64 hr) (by rfl) T.z_repr (PV.fb (pv_lc (own := [("place", 15), ("sign", 16)]) (js := [15, 16]) (slb := (fun s : ((S_law × Int) × Int) => ([some (Mo.b, enc s.1.1.v_script), some (Mo.a, enc s.1.1.v_draws), some (Mo.a, enc s.1.1.v_turn), some (Mo.a, enc s.1.1.v_number), some (Mo.a, enc s.1.1.v_other), some (Mo.b, enc s.1.1.v_told), some (Mo.a, enc s.1.1.v_places), some (Mo.b, enc s.1.1.v_rows), none, none, none, none, none, none, none, some (Mo.a, enc s.1.2), some (Mo.a, enc s.2), none] : Sl))) (set := fun (g : S_law) (t : (T2 Int Int)) => (((g, t.a), t.b) : ((S_law × Int) × Int))) nd (piv_listb (PV.pc (fun t : (List (E2 Int Int)) => unE t) unE_enc (pv_varo (i := 5) (fun s : S_law => s.v_told) (fun _ => rfl)))) (blkOk_by (N := N_law) (sc := defScope s_law) (by decide +kernel)) (by decide) (fun _ _ _ _ _ => (gv_tup (fun t : (T2 Int Int) => [enc t.a, enc t.b]) (fun _ => rfl) (fun _ => rfl) (gvs_cons (p1 := fun t : (T2 Int Int) => t.a) (p2 := fun t : (T2 Int Int) => t) (gv_name (i := 15) (slb := (fun s : (S_law × Int) => ([some (Mo.b, enc s.1.v_script), some (Mo.a, enc s.1.v_draws), some (Mo.a, enc s.1.v_turn), some (Mo.a, enc s.1.v_number), some (Mo.a, enc s.1.v_other), some (Mo.b, enc s.1.v_told), some (Mo.a, enc s.1.v_places), some (Mo.b, enc s.1.v_rows), none, none, none, none, none, none, none, some (Mo.a, enc s.2), none, none] : Sl))) (set := fun (g : S_law) (t : Int) => ((g, t) : (S_law × Int))) (fun _ _ => rfl) nd) (gvs_cons (p1 := fun t : (T2 Int Int) => t.b) (p2 := fun t : (T2 Int Int) => t) (gv_name (i := 16) (slb := (fun s : ((S_law × Int) × Int) => ([some (Mo.b, enc s.1.1.v_script), some (Mo.a, enc s.1.1.v_draws), some (Mo.a, enc s.1.1.v_turn), some (Mo.a, enc s.1.1.v_number), some (Mo.a, enc s.1.1.v_other), some (Mo.b, enc s.1.1.v_told), some (Mo.a, enc s.1.1.v_places), some (Mo.b, enc s.1.1.v_rows), none, none, none, none, none, none, none, some (Mo.a, enc s.1.2), some (Mo.a, enc s.2), none] : Sl))) (set := fun (g : (S_law × Int)) (t : Int) => ((g, t) : ((S_law × Int) × Int))) (fun _ _ => rfl) nd) gvs_nil)))) (fun _ _ _ _ _ => pbs_nil) (fun _ _ _ _ _ => (pv_mul (PV.ab (pv_mul (PV.ab (pv_var (i := 16) (fun s : ((S_law × Int) × Int) => s.2) (fun _ => rfl))) (PV.ab (pv_calla (ok__law_raised T) (hr.mono (by decide)) (by rfl) T.m__law_raised T.F__law_raised.kp T.b__law_raised (av_a (pv_var (i := 15) (fun s : ((S_law × Int) × Int) => s.1.2) (fun _ => rfl)) av_nil) (fun _ => ⟨2, rfl, rfl⟩))))) (PV.ab (pv_var (i := 4) (fun s : ((S_law × Int) × Int) => s.1.1.v_other) (fun _ => rfl)))))))))) (pb_or1 (pb_cmp c_neS (PV.ab (pv_sum (by rfl) T.z_sum (pv_varo (i := 7) (fun s : S_law => s.v_rows) (fun _ => rfl)))) (PV.ab (pv_mul (PV.ab (pv_var (i := 3) (fun s : S_law => s.v_number) (fun _ => rfl))) (PV.ab (pv_var (i := 4) (fun s : S_law => s.v_other) (fun _ => rfl)))))))))
  (bv_cons (sl'' := sl_law_1) (sv_ret pv_bool)
  (bv_nil (sl := sl_law_1) (h := fun s => s) (fun _ => Wk.refl _)))
  (bv_nil (h := fun (s : S_law) => (s : S_law)) (fun _ => (.s (.s (.s (.s (.s (.s (.s (.s (.s (.s (.s (.s (.s (.s (.s (.s (.s (.s .nil)))))))))))))))))))))
  (bv_cons (sl'' := sl_law_1) (sv_if (pb_cmp c_neS (PV.ab (pv_repr rfl (hu64 hr) (by rfl) T.z_repr (PV.fb (pv_callf (ok_shifts T) (hr.mono (by decide)) (by rfl) T.m_shifts T.F_shifts.kp T.b_shifts (av_a (pv_mul (PV.ab pv_int) (PV.ab (pv_var (i := 3) (fun s : S_law => s.v_number) (fun _ => rfl)))) av_nil) (fun _ => ⟨0, rfl, rfl⟩))))) (PV.ab (pv_repr rfl (hu64 hr) (by rfl) T.z_repr (PV.fb (pv_lc (own := [("place", 15), ("sign", 16)]) (js := [15, 16]) (slb := (fun s : ((S_law × Int) × Int) => ([some (Mo.b, enc s.1.1.v_script), some (Mo.a, enc s.1.1.v_draws), some (Mo.a, enc s.1.1.v_turn), some (Mo.a, enc s.1.1.v_number), some (Mo.a, enc s.1.1.v_other), some (Mo.b, enc s.1.1.v_told), some (Mo.a, enc s.1.1.v_places), some (Mo.b, enc s.1.1.v_rows), none, none, none, none, none, none, none, some (Mo.a, enc s.1.2), some (Mo.a, enc s.2), none] : Sl))) (set := fun (g : S_law) (t : (T2 Int Int)) => (((g, t.a), t.b) : ((S_law × Int) × Int))) nd (piv_listb (PV.pc (fun t : (List (E2 Int Int)) => unE t) unE_enc (pv_varo (i := 5) (fun s : S_law => s.v_told) (fun _ => rfl)))) (blkOk_by (N := N_law) (sc := defScope s_law) (by decide +kernel)) (by decide) (fun _ _ _ _ _ => (gv_tup (fun t : (T2 Int Int) => [enc t.a, enc t.b]) (fun _ => rfl) (fun _ => rfl) (gvs_cons (p1 := fun t : (T2 Int Int) => t.a) (p2 := fun t : (T2 Int Int) => t) (gv_name (i := 15) (slb := (fun s : (S_law × Int) => ([some (Mo.b, enc s.1.v_script), some (Mo.a, enc s.1.v_draws), some (Mo.a, enc s.1.v_turn), some (Mo.a, enc s.1.v_number), some (Mo.a, enc s.1.v_other), some (Mo.b, enc s.1.v_told), some (Mo.a, enc s.1.v_places), some (Mo.b, enc s.1.v_rows), none, none, none, none, none, none, none, some (Mo.a, enc s.2), none, none] : Sl))) (set := fun (g : S_law) (t : Int) => ((g, t) : (S_law × Int))) (fun _ _ => rfl) nd) (gvs_cons (p1 := fun t : (T2 Int Int) => t.b) (p2 := fun t : (T2 Int Int) => t) (gv_name (i := 16) (slb := (fun s : ((S_law × Int) × Int) => ([some (Mo.b, enc s.1.1.v_script), some (Mo.a, enc s.1.1.v_draws), some (Mo.a, enc s.1.1.v_turn), some (Mo.a, enc s.1.1.v_number), some (Mo.a, enc s.1.1.v_other), some (Mo.b, enc s.1.1.v_told), some (Mo.a, enc s.1.1.v_places), some (Mo.b, enc s.1.1.v_rows), none, none, none, none, none, none, none, some (Mo.a, enc s.1.2), some (Mo.a, enc s.2), none] : Sl))) (set := fun (g : (S_law × Int)) (t : Int) => ((g, t) : ((S_law × Int) × Int))) (fun _ _ => rfl) nd) gvs_nil)))) (fun _ _ _ _ _ => pbs_nil) (fun _ _ _ _ _ => (pv_tup2 (pv_add (PV.ab (pv_var (i := 15) (fun s : ((S_law × Int) × Int) => s.1.2) (fun _ => rfl))) (PV.ab pv_int)) (pv_var (i := 16) (fun s : ((S_law × Int) × Int) => s.2) (fun _ => rfl)))))))))
  (bv_cons (sl'' := sl_law_1) (sv_ret pv_bool)
  (bv_nil (sl := sl_law_1) (h := fun s => s) (fun _ => Wk.refl _)))
  (bv_nil (h := fun (s : S_law) => (s : S_law)) (fun _ => (.s (.s (.s (.s (.s (.s (.s (.s (.s (.s (.s (.s (.s (.s (.s (.s (.s (.s .nil)))))))))))))))))))))
  (bv_cons (sl'' := sl_law_1) (sv_app (i := 5) (fun s : S_law => s.v_told) (fun s t => { s with v_told := t }) (fun _ => rfl) (fun _ _ => rfl) (pv_e2 (α := Int) (β := Int)))
  (bv_cons (sl'' := sl_law_1) (sv_app (i := 7) (fun s : S_law => s.v_rows) (fun s t => { s with v_rows := t }) (fun _ => rfl) (fun _ _ => rfl) pv_int)
  (bv_cons (sl'' := sl_law_1) (sv_if (PBw.pb (pb_or (pb_cmp (c_neD (hu64 hr)) (PV.fb (PV.co (α := (List (T2 Int Int))) (β := (List (E2 Int Int))) (List.map (fun t : (T2 Int Int) => E2.v t)) (co_map (fun _ => rfl)) (pv_callf (ok_shifts T) (hr.mono (by decide)) (by rfl) T.m_shifts T.F_shifts.kp T.b_shifts (av_a (pv_var (i := 3) (fun s : S_law => s.v_number) (fun _ => rfl)) av_nil) (fun _ => ⟨0, rfl, rfl⟩)))) (PV.fb (pv_sl (pv_varo (i := 5) (fun s : S_law => s.v_told) (fun _ => rfl)) pvo_none (pvo_some (PV.ab (pv_neg (PV.ab pv_int))))))) (pb_or1 (pb_cmp (c_neD (hu64 hr)) (PV.fb (pv_callf (ok_by_shifts T) (hr.mono (by decide)) (by rfl) T.m_by_shifts T.F_by_shifts.kp T.b_by_shifts (av_a (pv_var (i := 3) (fun s : S_law => s.v_number) (fun _ => rfl)) (av_a (pv_var (i := 4) (fun s : S_law => s.v_other) (fun _ => rfl)) av_nil)) (fun _ => ⟨2, rfl, rfl⟩))) (PV.fb (pv_sl (pv_varo (i := 7) (fun s : S_law => s.v_rows) (fun _ => rfl)) pvo_none (pvo_some (PV.ab (pv_neg (PV.ab pv_int))))))))))
  (bv_cons (sl'' := sl_law_1) (sv_ret pv_bool)
  (bv_nil (sl := sl_law_1) (h := fun s => s) (fun _ => Wk.refl _)))
  (bv_nil (h := fun (s : S_law) => (s : S_law)) (fun _ => (.s (.s (.s (.s (.s (.s (.s (.s (.s (.s (.s (.s (.s (.s (.s (.s (.s (.s .nil)))))))))))))))))))))
  (bv_cons (sl'' := sl_law_7) (sv_set (i := 8) (fun (s : S_law) t => { s with v_small := t }) (fun _ _ => rfl) nd (pv_add (PV.ab pv_int) (PV.ab (pv_calla (ok__law_mix T) (hr.mono (by decide)) (by rfl) T.m__law_mix T.F__law_mix.kp T.b__law_mix (av_b (PV.ab (pv_var (i := 1) (fun s : S_law => s.v_draws) (fun _ => rfl))) (av_a (pv_add (PV.ab pv_int) (PV.ab (pv_var (i := 2) (fun s : S_law => s.v_turn) (fun _ => rfl)))) (av_a pv_int av_nil))) (fun _ => ⟨1, rfl, rfl⟩)))))
  (bv_cons (sl'' := sl_law_6) (sv_par (i := 9) (j := 10) (fun (s : S_law) x1665 x1666 => { s with v_add := x1665, v_shift := x1666 }) (fun _ _ _ => rfl) nd (pv_calla (ok__law_mix T) (hr.mono (by decide)) (by rfl) T.m__law_mix T.F__law_mix.kp T.b__law_mix (av_b (PV.ab (pv_var (i := 1) (fun s : S_law => s.v_draws) (fun _ => rfl))) (av_a (pv_add (PV.ab pv_int) (PV.ab (pv_var (i := 2) (fun s : S_law => s.v_turn) (fun _ => rfl)))) (av_a pv_int av_nil))) (fun _ => ⟨1, rfl, rfl⟩)) (pv_calla (ok__law_mix T) (hr.mono (by decide)) (by rfl) T.m__law_mix T.F__law_mix.kp T.b__law_mix (av_b (PV.ab (pv_var (i := 1) (fun s : S_law => s.v_draws) (fun _ => rfl))) (av_a (pv_add (PV.ab pv_int) (PV.ab (pv_var (i := 2) (fun s : S_law => s.v_turn) (fun _ => rfl)))) (av_a (pv_ix (PV.fb (pv_lst (pal_cons pv_int (pal_cons pv_int (pal_nil (τ := Int)))))) (PV.ab (pv_calla (ok__law_mix T) (hr.mono (by decide)) (by rfl) T.m__law_mix T.F__law_mix.kp T.b__law_mix (av_b (PV.ab (pv_var (i := 1) (fun s : S_law => s.v_draws) (fun _ => rfl))) (av_a (pv_add (PV.ab pv_int) (PV.ab (pv_var (i := 2) (fun s : S_law => s.v_turn) (fun _ => rfl)))) (av_a pv_int av_nil))) (fun _ => ⟨1, rfl, rfl⟩)))) av_nil))) (fun _ => ⟨1, rfl, rfl⟩)))
  (bv_cons (sl'' := sl_law_5) (sv_set (i := 11) (fun (s : S_law) t => { s with v_pairs := t }) (fun _ _ => rfl) nd (PV.fa (pv_callf (ok_shifts T) (hr.mono (by decide)) (by rfl) T.m_shifts T.F_shifts.kp T.b_shifts (av_a (pv_var (i := 8) (fun s : S_law => s.v_small) (fun _ => rfl)) av_nil) (fun _ => ⟨0, rfl, rfl⟩))))
  (bv_cons (sl'' := sl_law_4) (sv_set (i := 12) (fun (s : S_law) t => { s with v_one := t }) (fun _ _ => rfl) nd (pv_mul (PV.ab (pv_var (i := 9) (fun s : S_law => s.v_add) (fun _ => rfl))) (PV.ab (pv_calla (ok_least_steps T) (hr.mono (by decide)) (by rfl) T.m_least_steps T.F_least_steps.kp T.b_least_steps (av_a (pv_var (i := 8) (fun s : S_law => s.v_small) (fun _ => rfl)) av_nil) (fun _ => ⟨0, rfl, rfl⟩)))))
  (bv_cons (sl'' := sl_law_3) (sv_set (i := 13) (fun (s : S_law) t => { s with v_two := t }) (fun _ _ => rfl) nd (pv_add (PV.ab (pv_mul (PV.ab (pv_var (i := 9) (fun s : S_law => s.v_add) (fun _ => rfl))) (PV.ab (pv_sub (PV.ab (pv_len (by rfl) T.z_len (PV.ab (pv_var (i := 11) (fun s : S_law => s.v_pairs) (fun _ => rfl))))) (PV.ab pv_int))))) (PV.ab (pv_mul (PV.ab (pv_var (i := 10) (fun s : S_law => s.v_shift) (fun _ => rfl))) (PV.ab (pv_len (by rfl) T.z_len (PV.fb (pv_lc (own := [("place", 15), ("sign", 16)]) (js := [15, 16]) (slb := (fun s : ((S_law × Int) × Int) => ([some (Mo.b, enc s.1.1.v_script), some (Mo.a, enc s.1.1.v_draws), some (Mo.a, enc s.1.1.v_turn), some (Mo.a, enc s.1.1.v_number), some (Mo.a, enc s.1.1.v_other), some (Mo.b, enc s.1.1.v_told), some (Mo.a, enc s.1.1.v_places), some (Mo.b, enc s.1.1.v_rows), some (Mo.a, enc s.1.1.v_small), some (Mo.a, enc s.1.1.v_add), some (Mo.a, enc s.1.1.v_shift), some (Mo.a, enc s.1.1.v_pairs), some (Mo.a, enc s.1.1.v_one), none, none, some (Mo.a, enc s.1.2), some (Mo.a, enc s.2), none] : Sl))) (set := fun (g : S_law) (t : (T2 Int Int)) => (((g, t.a), t.b) : ((S_law × Int) × Int))) nd (IV.ab (piv_list (pv_var (i := 11) (fun s : S_law => s.v_pairs) (fun _ => rfl)))) (blkOk_by (N := N_law) (sc := defScope s_law) (by decide +kernel)) (by decide) (fun _ _ _ _ _ => (gv_tup (fun t : (T2 Int Int) => [enc t.a, enc t.b]) (fun _ => rfl) (fun _ => rfl) (gvs_cons (p1 := fun t : (T2 Int Int) => t.a) (p2 := fun t : (T2 Int Int) => t) (gv_name (i := 15) (slb := (fun s : (S_law × Int) => ([some (Mo.b, enc s.1.v_script), some (Mo.a, enc s.1.v_draws), some (Mo.a, enc s.1.v_turn), some (Mo.a, enc s.1.v_number), some (Mo.a, enc s.1.v_other), some (Mo.b, enc s.1.v_told), some (Mo.a, enc s.1.v_places), some (Mo.b, enc s.1.v_rows), some (Mo.a, enc s.1.v_small), some (Mo.a, enc s.1.v_add), some (Mo.a, enc s.1.v_shift), some (Mo.a, enc s.1.v_pairs), some (Mo.a, enc s.1.v_one), none, none, some (Mo.a, enc s.2), none, none] : Sl))) (set := fun (g : S_law) (t : Int) => ((g, t) : (S_law × Int))) (fun _ _ => rfl) nd) (gvs_cons (p1 := fun t : (T2 Int Int) => t.b) (p2 := fun t : (T2 Int Int) => t) (gv_name (i := 16) (slb := (fun s : ((S_law × Int) × Int) => ([some (Mo.b, enc s.1.1.v_script), some (Mo.a, enc s.1.1.v_draws), some (Mo.a, enc s.1.1.v_turn), some (Mo.a, enc s.1.1.v_number), some (Mo.a, enc s.1.1.v_other), some (Mo.b, enc s.1.1.v_told), some (Mo.a, enc s.1.1.v_places), some (Mo.b, enc s.1.1.v_rows), some (Mo.a, enc s.1.1.v_small), some (Mo.a, enc s.1.1.v_add), some (Mo.a, enc s.1.1.v_shift), some (Mo.a, enc s.1.1.v_pairs), some (Mo.a, enc s.1.1.v_one), none, none, some (Mo.a, enc s.1.2), some (Mo.a, enc s.2), none] : Sl))) (set := fun (g : (S_law × Int)) (t : Int) => ((g, t) : ((S_law × Int) × Int))) (fun _ _ => rfl) nd) gvs_nil)))) (fun _ _ _ _ _ => pbs_one (pb_cmp c_gt (PV.ab (pv_var (i := 15) (fun s : ((S_law × Int) × Int) => s.1.2) (fun _ => rfl))) (PV.ab pv_int))) (fun _ _ _ _ _ => (pv_var (i := 15) (fun s : ((S_law × Int) × Int) => s.1.2) (fun _ => rfl)))))))))))
  (bv_cons (sl'' := sl_law_2) (sv_set (i := 14) (fun (s : S_law) t => { s with v_due := t }) (fun _ _ => rfl) nd (pv_tup2 (pv_var (i := 12) (fun s : S_law => s.v_one) (fun _ => rfl)) (pv_str [99, 104, 97, 105, 110])))
  (bv_cons (sl'' := sl_law_2) (sv_if (pb_cmp c_lt (PV.ab (pv_var (i := 13) (fun s : S_law => s.v_two) (fun _ => rfl))) (PV.ab (pv_var (i := 12) (fun s : S_law => s.v_one) (fun _ => rfl))))
  (bv_cons (sl'' := sl_law_2) (sv_set (i := 14) (fun (s : S_law) t => { s with v_due := t }) (fun _ _ => rfl) nd (pv_tup2 (pv_var (i := 13) (fun s : S_law => s.v_two) (fun _ => rfl)) (pv_str [115, 104, 105, 102, 116, 115])))
  (bv_nil (h := fun (s : S_law) => (s : S_law)) (fun _ => (.s (.s (.s (.s (.s (.s (.s (.s (.s (.s (.s (.s (.s (.s (.s (.s (.s (.s .nil)))))))))))))))))))))
  (bv_nil (h := fun (s : S_law) => (s : S_law)) (fun _ => (.s (.s (.s (.s (.s (.s (.s (.s (.s (.s (.s (.s (.s (.s (.s (.s (.s (.s .nil)))))))))))))))))))))
  (bv_cons (sl'' := sl_law_2) (sv_if (pb_cmp c_neS (PV.ab (pv_repr rfl (hu64 hr) (by rfl) T.z_repr (PV.ab (pv_calla (ok_cheapest T) (hr.mono (by decide)) (by rfl) T.m_cheapest T.F_cheapest.kp T.b_cheapest (av_a (pv_var (i := 8) (fun s : S_law => s.v_small) (fun _ => rfl)) (av_a (pv_var (i := 9) (fun s : S_law => s.v_add) (fun _ => rfl)) (av_a (pv_var (i := 10) (fun s : S_law => s.v_shift) (fun _ => rfl)) av_nil))) (fun _ => ⟨6, rfl, rfl⟩))))) (PV.ab (pv_repr rfl (hu64 hr) (by rfl) T.z_repr (PV.ab (pv_var (i := 14) (fun s : S_law => s.v_due) (fun _ => rfl))))))
  (bv_cons (sl'' := sl_law_2) (sv_ret pv_bool)
  (bv_nil (sl := sl_law_2) (h := fun s => s) (fun _ => Wk.refl _)))
  (bv_nil (h := fun (s : S_law) => (s : S_law)) (fun _ => (.s (.s (.s (.s (.s (.s (.s (.s (.s (.s (.s (.s (.s (.s (.s (.s (.s (.s .nil)))))))))))))))))))))
  (bv_nil (h := fun (s : S_law) => ({ s with v_turn := 0, v_number := 0, v_other := 0, v_told := [], v_places := [], v_rows := [], v_small := 0, v_add := 0, v_shift := 0, v_pairs := [], v_one := 0, v_two := 0, v_due := ⟨0, ⟨[]⟩⟩ } : S_law)) (fun _ => (.s (.s (.d (.d (.d (.d (.d (.d (.d (.d (.d (.d (.d (.d (.d (.s (.s (.s .nil)))))))))))))))))))))))))))))))))))))))))
  (bv_cons (sl'' := sl_law_13) (sv_ret (pv_and (pv_cmp (c_eqD (hu64 hr)) (PV.fb (pv_callf (ok_shifts T) (hr.mono (by decide)) (by rfl) T.m_shifts T.F_shifts.kp T.b_shifts (av_a pv_int av_nil) (fun _ => ⟨0, rfl, rfl⟩))) (PV.fb (pv_lst (pal_cons (pv_tup2 pv_int (pv_neg (PV.ab pv_int))) (pal_cons (pv_tup2 pv_int pv_int) (pal_nil (τ := (T2 Int Int)))))))) (pv_and (pv_cmp (c_eqD (hu64 hr)) (PV.ab (pv_calla (ok_cheapest T) (hr.mono (by decide)) (by rfl) T.m_cheapest T.F_cheapest.kp T.b_cheapest (av_a pv_int (av_a pv_int (av_a pv_int av_nil))) (fun _ => ⟨6, rfl, rfl⟩))) (PV.ab (pv_tup2 pv_int (pv_str [99, 104, 97, 105, 110])))) (pv_one (pv_cmp (c_eqD (hu64 hr)) (PV.fb (pv_callf (ok_by_shifts T) (hr.mono (by decide)) (by rfl) T.m_by_shifts T.F_by_shifts.kp T.b_by_shifts (av_a pv_int (av_a pv_int av_nil)) (fun _ => ⟨2, rfl, rfl⟩))) (PV.fb (pv_lst (pal_cons (pv_neg (PV.ab pv_int)) (pal_cons pv_int (pal_nil (τ := Int)))))))))))
  (bv_nil (sl := sl_law_13) (h := fun s => s) (fun _ => Wk.refl _))))))
theorem mk_top {h : Heap} {fa : Addr} (X : K.In h) (G : h.Ns mainGlobals mg) (hfa : mg "law" = some (.ref fa))
    {x__law_draws : Addr} {od__law_draws an__law_draws : Option Addr} {osl__law_draws : Array (Option Value)} {oc__law_draws kV__law_draws dc__law_draws pm__law_draws cd__law_draws ct__law_draws : Value}
    (a__law_draws : PySem.W.nsIn K mainGlobals "_law_draws" = some (some (.ref x__law_draws))) (l__law_draws : K.lookup x__law_draws = some ⟨oc__law_draws, od__law_draws, .func (PySem.W.fnOf "_law_draws" "_law_draws" (defArgs s__law_draws) (defBody s__law_draws) (defScope s__law_draws) .none kV__law_draws dc__law_draws pm__law_draws an__law_draws cd__law_draws ct__law_draws), osl__law_draws⟩) (c__law_draws : PySem.W.codeIn K cd__law_draws "_law_draws" = true) (k__law_draws : PySem.W.keepIn K (.ref x__law_draws) = true)
    {x_check_number : Addr} {od_check_number an_check_number : Option Addr} {osl_check_number : Array (Option Value)} {oc_check_number kV_check_number dc_check_number pm_check_number cd_check_number ct_check_number : Value}
    (a_check_number : PySem.W.nsIn K mainGlobals "check_number" = some (some (.ref x_check_number))) (l_check_number : K.lookup x_check_number = some ⟨oc_check_number, od_check_number, .func (PySem.W.fnOf "check_number" "check_number" (defArgs s_check_number) (defBody s_check_number) (defScope s_check_number) .none kV_check_number dc_check_number pm_check_number an_check_number cd_check_number ct_check_number), osl_check_number⟩) (c_check_number : PySem.W.codeIn K cd_check_number "check_number" = true) (k_check_number : PySem.W.keepIn K (.ref x_check_number) = true)
    {x_lean_row : Addr} {od_lean_row an_lean_row : Option Addr} {osl_lean_row : Array (Option Value)} {oc_lean_row kV_lean_row dc_lean_row pm_lean_row cd_lean_row ct_lean_row : Value}
    (a_lean_row : PySem.W.nsIn K mainGlobals "lean_row" = some (some (.ref x_lean_row))) (l_lean_row : K.lookup x_lean_row = some ⟨oc_lean_row, od_lean_row, .func (PySem.W.fnOf "lean_row" "lean_row" (defArgs s_lean_row) (defBody s_lean_row) (defScope s_lean_row) .none kV_lean_row dc_lean_row pm_lean_row an_lean_row cd_lean_row ct_lean_row), osl_lean_row⟩) (c_lean_row : PySem.W.codeIn K cd_lean_row "lean_row" = true) (k_lean_row : PySem.W.keepIn K (.ref x_lean_row) = true)
    {x_shifts_of : Addr} {od_shifts_of an_shifts_of : Option Addr} {osl_shifts_of : Array (Option Value)} {oc_shifts_of kV_shifts_of dc_shifts_of pm_shifts_of cd_shifts_of ct_shifts_of : Value}
    (a_shifts_of : PySem.W.nsIn K mainGlobals "shifts_of" = some (some (.ref x_shifts_of))) (l_shifts_of : K.lookup x_shifts_of = some ⟨oc_shifts_of, od_shifts_of, .func (PySem.W.fnOf "shifts_of" "shifts_of" (defArgs s_shifts_of) (defBody s_shifts_of) (defScope s_shifts_of) .none kV_shifts_of dc_shifts_of pm_shifts_of an_shifts_of cd_shifts_of ct_shifts_of), osl_shifts_of⟩) (c_shifts_of : PySem.W.codeIn K cd_shifts_of "shifts_of" = true) (k_shifts_of : PySem.W.keepIn K (.ref x_shifts_of) = true)
    {x_shifts : Addr} {od_shifts an_shifts : Option Addr} {osl_shifts : Array (Option Value)} {oc_shifts kV_shifts dc_shifts pm_shifts cd_shifts ct_shifts : Value}
    (a_shifts : PySem.W.nsIn K mainGlobals "shifts" = some (some (.ref x_shifts))) (l_shifts : K.lookup x_shifts = some ⟨oc_shifts, od_shifts, .func (PySem.W.fnOf "shifts" "shifts" (defArgs s_shifts) (defBody s_shifts) (defScope s_shifts) .none kV_shifts dc_shifts pm_shifts an_shifts cd_shifts ct_shifts), osl_shifts⟩) (c_shifts : PySem.W.codeIn K cd_shifts "shifts" = true) (k_shifts : PySem.W.keepIn K (.ref x_shifts) = true)
    {x_doubled : Addr} {od_doubled an_doubled : Option Addr} {osl_doubled : Array (Option Value)} {oc_doubled kV_doubled dc_doubled pm_doubled cd_doubled ct_doubled : Value}
    (a_doubled : PySem.W.nsIn K mainGlobals "doubled" = some (some (.ref x_doubled))) (l_doubled : K.lookup x_doubled = some ⟨oc_doubled, od_doubled, .func (PySem.W.fnOf "doubled" "doubled" (defArgs s_doubled) (defBody s_doubled) (defScope s_doubled) .none kV_doubled dc_doubled pm_doubled an_doubled cd_doubled ct_doubled), osl_doubled⟩) (c_doubled : PySem.W.codeIn K cd_doubled "doubled" = true) (k_doubled : PySem.W.keepIn K (.ref x_doubled) = true)
    {x_by_shifts : Addr} {od_by_shifts an_by_shifts : Option Addr} {osl_by_shifts : Array (Option Value)} {oc_by_shifts kV_by_shifts dc_by_shifts pm_by_shifts cd_by_shifts ct_by_shifts : Value}
    (a_by_shifts : PySem.W.nsIn K mainGlobals "by_shifts" = some (some (.ref x_by_shifts))) (l_by_shifts : K.lookup x_by_shifts = some ⟨oc_by_shifts, od_by_shifts, .func (PySem.W.fnOf "by_shifts" "by_shifts" (defArgs s_by_shifts) (defBody s_by_shifts) (defScope s_by_shifts) .none kV_by_shifts dc_by_shifts pm_by_shifts an_by_shifts cd_by_shifts ct_by_shifts), osl_by_shifts⟩) (c_by_shifts : PySem.W.codeIn K cd_by_shifts "by_shifts" = true) (k_by_shifts : PySem.W.keepIn K (.ref x_by_shifts) = true)
    {x__law_mix : Addr} {od__law_mix an__law_mix : Option Addr} {osl__law_mix : Array (Option Value)} {oc__law_mix kV__law_mix dc__law_mix pm__law_mix cd__law_mix ct__law_mix : Value}
    (a__law_mix : PySem.W.nsIn K mainGlobals "_law_mix" = some (some (.ref x__law_mix))) (l__law_mix : K.lookup x__law_mix = some ⟨oc__law_mix, od__law_mix, .func (PySem.W.fnOf "_law_mix" "_law_mix" (defArgs s__law_mix) (defBody s__law_mix) (defScope s__law_mix) .none kV__law_mix dc__law_mix pm__law_mix an__law_mix cd__law_mix ct__law_mix), osl__law_mix⟩) (c__law_mix : PySem.W.codeIn K cd__law_mix "_law_mix" = true) (k__law_mix : PySem.W.keepIn K (.ref x__law_mix) = true)
    {x_next_of : Addr} {od_next_of an_next_of : Option Addr} {osl_next_of : Array (Option Value)} {oc_next_of kV_next_of dc_next_of pm_next_of cd_next_of ct_next_of : Value}
    (a_next_of : PySem.W.nsIn K mainGlobals "next_of" = some (some (.ref x_next_of))) (l_next_of : K.lookup x_next_of = some ⟨oc_next_of, od_next_of, .func (PySem.W.fnOf "next_of" "next_of" (defArgs s_next_of) (defBody s_next_of) (defScope s_next_of) .none kV_next_of dc_next_of pm_next_of an_next_of cd_next_of ct_next_of), osl_next_of⟩) (c_next_of : PySem.W.codeIn K cd_next_of "next_of" = true) (k_next_of : PySem.W.keepIn K (.ref x_next_of) = true)
    {x_gone_on : Addr} {od_gone_on an_gone_on : Option Addr} {osl_gone_on : Array (Option Value)} {oc_gone_on kV_gone_on dc_gone_on pm_gone_on cd_gone_on ct_gone_on : Value}
    (a_gone_on : PySem.W.nsIn K mainGlobals "gone_on" = some (some (.ref x_gone_on))) (l_gone_on : K.lookup x_gone_on = some ⟨oc_gone_on, od_gone_on, .func (PySem.W.fnOf "gone_on" "gone_on" (defArgs s_gone_on) (defBody s_gone_on) (defScope s_gone_on) .none kV_gone_on dc_gone_on pm_gone_on an_gone_on cd_gone_on ct_gone_on), osl_gone_on⟩) (c_gone_on : PySem.W.codeIn K cd_gone_on "gone_on" = true) (k_gone_on : PySem.W.keepIn K (.ref x_gone_on) = true)
    {x_first_of : Addr} {od_first_of an_first_of : Option Addr} {osl_first_of : Array (Option Value)} {oc_first_of kV_first_of dc_first_of pm_first_of cd_first_of ct_first_of : Value}
    (a_first_of : PySem.W.nsIn K mainGlobals "first_of" = some (some (.ref x_first_of))) (l_first_of : K.lookup x_first_of = some ⟨oc_first_of, od_first_of, .func (PySem.W.fnOf "first_of" "first_of" (defArgs s_first_of) (defBody s_first_of) (defScope s_first_of) .none kV_first_of dc_first_of pm_first_of an_first_of cd_first_of ct_first_of), osl_first_of⟩) (c_first_of : PySem.W.codeIn K cd_first_of "first_of" = true) (k_first_of : PySem.W.keepIn K (.ref x_first_of) = true)
    {x_least_steps : Addr} {od_least_steps an_least_steps : Option Addr} {osl_least_steps : Array (Option Value)} {oc_least_steps kV_least_steps dc_least_steps pm_least_steps cd_least_steps ct_least_steps : Value}
    (a_least_steps : PySem.W.nsIn K mainGlobals "least_steps" = some (some (.ref x_least_steps))) (l_least_steps : K.lookup x_least_steps = some ⟨oc_least_steps, od_least_steps, .func (PySem.W.fnOf "least_steps" "least_steps" (defArgs s_least_steps) (defBody s_least_steps) (defScope s_least_steps) .none kV_least_steps dc_least_steps pm_least_steps an_least_steps cd_least_steps ct_least_steps), osl_least_steps⟩) (c_least_steps : PySem.W.codeIn K cd_least_steps "least_steps" = true) (k_least_steps : PySem.W.keepIn K (.ref x_least_steps) = true)
    {x_cheapest : Addr} {od_cheapest an_cheapest : Option Addr} {osl_cheapest : Array (Option Value)} {oc_cheapest kV_cheapest dc_cheapest pm_cheapest cd_cheapest ct_cheapest : Value}
    (a_cheapest : PySem.W.nsIn K mainGlobals "cheapest" = some (some (.ref x_cheapest))) (l_cheapest : K.lookup x_cheapest = some ⟨oc_cheapest, od_cheapest, .func (PySem.W.fnOf "cheapest" "cheapest" (defArgs s_cheapest) (defBody s_cheapest) (defScope s_cheapest) .none kV_cheapest dc_cheapest pm_cheapest an_cheapest cd_cheapest ct_cheapest), osl_cheapest⟩) (c_cheapest : PySem.W.codeIn K cd_cheapest "cheapest" = true) (k_cheapest : PySem.W.keepIn K (.ref x_cheapest) = true)
    {x__law_raised : Addr} {od__law_raised an__law_raised : Option Addr} {osl__law_raised : Array (Option Value)} {oc__law_raised kV__law_raised dc__law_raised pm__law_raised cd__law_raised ct__law_raised : Value}
    (a__law_raised : PySem.W.nsIn K mainGlobals "_law_raised" = some (some (.ref x__law_raised))) (l__law_raised : K.lookup x__law_raised = some ⟨oc__law_raised, od__law_raised, .func (PySem.W.fnOf "_law_raised" "_law_raised" (defArgs s__law_raised) (defBody s__law_raised) (defScope s__law_raised) .none kV__law_raised dc__law_raised pm__law_raised an__law_raised cd__law_raised ct__law_raised), osl__law_raised⟩) (c__law_raised : PySem.W.codeIn K cd__law_raised "_law_raised" = true) (k__law_raised : PySem.W.keepIn K (.ref x__law_raised) = true)
    {x__law_fewest : Addr} {od__law_fewest an__law_fewest : Option Addr} {osl__law_fewest : Array (Option Value)} {oc__law_fewest kV__law_fewest dc__law_fewest pm__law_fewest cd__law_fewest ct__law_fewest : Value}
    (a__law_fewest : PySem.W.nsIn K mainGlobals "_law_fewest" = some (some (.ref x__law_fewest))) (l__law_fewest : K.lookup x__law_fewest = some ⟨oc__law_fewest, od__law_fewest, .func (PySem.W.fnOf "_law_fewest" "_law_fewest" (defArgs s__law_fewest) (defBody s__law_fewest) (defScope s__law_fewest) .none kV__law_fewest dc__law_fewest pm__law_fewest an__law_fewest cd__law_fewest ct__law_fewest), osl__law_fewest⟩) (c__law_fewest : PySem.W.codeIn K cd__law_fewest "_law_fewest" = true) (k__law_fewest : PySem.W.keepIn K (.ref x__law_fewest) = true)
    {x_law : Addr} {od_law an_law : Option Addr} {osl_law : Array (Option Value)} {oc_law kV_law dc_law pm_law cd_law ct_law : Value}
    (a_law : PySem.W.nsIn K mainGlobals "law" = some (some (.ref x_law))) (l_law : K.lookup x_law = some ⟨oc_law, od_law, .func (PySem.W.fnOf "law" "law" (defArgs s_law) (defBody s_law) (defScope s_law) .none kV_law dc_law pm_law an_law cd_law ct_law), osl_law⟩) (c_law : PySem.W.codeIn K cd_law "law" = true) (k_law : PySem.W.keepIn K (.ref x_law) = true)
    (z_abs : PySem.W.nsIn K mainGlobals "abs" = some none)
    (z_enumerate : PySem.W.nsIn K mainGlobals "enumerate" = some none)
    (z_int : PySem.W.nsIn K mainGlobals "int" = some none)
    (z_len : PySem.W.nsIn K mainGlobals "len" = some none)
    (z_min : PySem.W.nsIn K mainGlobals "min" = some none)
    (z_range : PySem.W.nsIn K mainGlobals "range" = some none)
    (z_repr : PySem.W.nsIn K mainGlobals "repr" = some none)
    (z_set : PySem.W.nsIn K mainGlobals "set" = some none)
    (z_sorted : PySem.W.nsIn K mainGlobals "sorted" = some none)
    (z_sum : PySem.W.nsIn K mainGlobals "sum" = some none)
    {t_MOST_BINARY : Tok} (q_MOST_BINARY : PySem.W.nsIn K mainGlobals "MOST_BINARY" = some (some (.int 1000000 t_MOST_BINARY)))
    {t_MOST_NUMBER : Tok} (q_MOST_NUMBER : PySem.W.nsIn K mainGlobals "MOST_NUMBER" = some (some (.int 60 t_MOST_NUMBER)))
    {t_MOST_PRICE : Tok} (q_MOST_PRICE : PySem.W.nsIn K mainGlobals "MOST_PRICE" = some (some (.int 100 t_MOST_PRICE))) :
    ∃ T : Top K mg, T.a_law = fa ∧ (∀ (s : Shared) (u : Value), BindsTo s T.d_law ⟨[u], []⟩ [("script", u)]) := by
  have e := hfa.symm.trans (PySem.W.mg_of X G a_law)
  refine ⟨{
    a__law_draws := x__law_draws, d__law_draws := PySem.W.fnOf "_law_draws" "_law_draws" (defArgs s__law_draws) (defBody s__law_draws) (defScope s__law_draws) .none kV__law_draws dc__law_draws pm__law_draws an__law_draws cd__law_draws ct__law_draws, F__law_draws := fun_mk l__law_draws c__law_draws k__law_draws, b__law_draws := (fun_mk (st := s__law_draws) l__law_draws c__law_draws k__law_draws).binds (ps := ["script"]) fun _ _ _ _ _ _ us hl => match us, hl with | [_], _ => rfl, m__law_draws := PySem.W.mg_of X G a__law_draws,
    a_check_number := x_check_number, d_check_number := PySem.W.fnOf "check_number" "check_number" (defArgs s_check_number) (defBody s_check_number) (defScope s_check_number) .none kV_check_number dc_check_number pm_check_number an_check_number cd_check_number ct_check_number, F_check_number := fun_mk l_check_number c_check_number k_check_number, b_check_number := (fun_mk (st := s_check_number) l_check_number c_check_number k_check_number).binds (ps := ["number", "most"]) fun _ _ _ _ _ _ us hl => match us, hl with | [_, _], _ => rfl, m_check_number := PySem.W.mg_of X G a_check_number,
    a_lean_row := x_lean_row, d_lean_row := PySem.W.fnOf "lean_row" "lean_row" (defArgs s_lean_row) (defBody s_lean_row) (defScope s_lean_row) .none kV_lean_row dc_lean_row pm_lean_row an_lean_row cd_lean_row ct_lean_row, F_lean_row := fun_mk l_lean_row c_lean_row k_lean_row, b_lean_row := (fun_mk (st := s_lean_row) l_lean_row c_lean_row k_lean_row).binds (ps := ["number"]) fun _ _ _ _ _ _ us hl => match us, hl with | [_], _ => rfl, m_lean_row := PySem.W.mg_of X G a_lean_row,
    a_shifts_of := x_shifts_of, d_shifts_of := PySem.W.fnOf "shifts_of" "shifts_of" (defArgs s_shifts_of) (defBody s_shifts_of) (defScope s_shifts_of) .none kV_shifts_of dc_shifts_of pm_shifts_of an_shifts_of cd_shifts_of ct_shifts_of, F_shifts_of := fun_mk l_shifts_of c_shifts_of k_shifts_of, b_shifts_of := (fun_mk (st := s_shifts_of) l_shifts_of c_shifts_of k_shifts_of).binds (ps := ["number"]) fun _ _ _ _ _ _ us hl => match us, hl with | [_], _ => rfl, m_shifts_of := PySem.W.mg_of X G a_shifts_of,
    a_shifts := x_shifts, d_shifts := PySem.W.fnOf "shifts" "shifts" (defArgs s_shifts) (defBody s_shifts) (defScope s_shifts) .none kV_shifts dc_shifts pm_shifts an_shifts cd_shifts ct_shifts, F_shifts := fun_mk l_shifts c_shifts k_shifts, b_shifts := (fun_mk (st := s_shifts) l_shifts c_shifts k_shifts).binds (ps := ["number"]) fun _ _ _ _ _ _ us hl => match us, hl with | [_], _ => rfl, m_shifts := PySem.W.mg_of X G a_shifts,
    a_doubled := x_doubled, d_doubled := PySem.W.fnOf "doubled" "doubled" (defArgs s_doubled) (defBody s_doubled) (defScope s_doubled) .none kV_doubled dc_doubled pm_doubled an_doubled cd_doubled ct_doubled, F_doubled := fun_mk l_doubled c_doubled k_doubled, b_doubled := (fun_mk (st := s_doubled) l_doubled c_doubled k_doubled).binds (ps := ["number", "place"]) fun _ _ _ _ _ _ us hl => match us, hl with | [_, _], _ => rfl, m_doubled := PySem.W.mg_of X G a_doubled,
    a_by_shifts := x_by_shifts, d_by_shifts := PySem.W.fnOf "by_shifts" "by_shifts" (defArgs s_by_shifts) (defBody s_by_shifts) (defScope s_by_shifts) .none kV_by_shifts dc_by_shifts pm_by_shifts an_by_shifts cd_by_shifts ct_by_shifts, F_by_shifts := fun_mk l_by_shifts c_by_shifts k_by_shifts, b_by_shifts := (fun_mk (st := s_by_shifts) l_by_shifts c_by_shifts k_by_shifts).binds (ps := ["number", "other"]) fun _ _ _ _ _ _ us hl => match us, hl with | [_, _], _ => rfl, m_by_shifts := PySem.W.mg_of X G a_by_shifts,
    a__law_mix := x__law_mix, d__law_mix := PySem.W.fnOf "_law_mix" "_law_mix" (defArgs s__law_mix) (defBody s__law_mix) (defScope s__law_mix) .none kV__law_mix dc__law_mix pm__law_mix an__law_mix cd__law_mix ct__law_mix, F__law_mix := fun_mk l__law_mix c__law_mix k__law_mix, b__law_mix := (fun_mk (st := s__law_mix) l__law_mix c__law_mix k__law_mix).binds (ps := ["draws", "k", "many"]) fun _ _ _ _ _ _ us hl => match us, hl with | [_, _, _], _ => rfl, m__law_mix := PySem.W.mg_of X G a__law_mix,
    a_next_of := x_next_of, d_next_of := PySem.W.fnOf "next_of" "next_of" (defArgs s_next_of) (defBody s_next_of) (defScope s_next_of) .none kV_next_of dc_next_of pm_next_of an_next_of cd_next_of ct_next_of, F_next_of := fun_mk l_next_of c_next_of k_next_of, b_next_of := (fun_mk (st := s_next_of) l_next_of c_next_of k_next_of).binds (ps := ["told", "number", "steps"]) fun _ _ _ _ _ _ us hl => match us, hl with | [_, _, _], _ => rfl, m_next_of := PySem.W.mg_of X G a_next_of,
    a_gone_on := x_gone_on, d_gone_on := PySem.W.fnOf "gone_on" "gone_on" (defArgs s_gone_on) (defBody s_gone_on) (defScope s_gone_on) .none kV_gone_on dc_gone_on pm_gone_on an_gone_on cd_gone_on ct_gone_on, F_gone_on := fun_mk l_gone_on c_gone_on k_gone_on, b_gone_on := (fun_mk (st := s_gone_on) l_gone_on c_gone_on k_gone_on).binds (ps := ["told", "number", "steps"]) fun _ _ _ _ _ _ us hl => match us, hl with | [_, _, _], _ => rfl, m_gone_on := PySem.W.mg_of X G a_gone_on,
    a_first_of := x_first_of, d_first_of := PySem.W.fnOf "first_of" "first_of" (defArgs s_first_of) (defBody s_first_of) (defScope s_first_of) .none kV_first_of dc_first_of pm_first_of an_first_of cd_first_of ct_first_of, F_first_of := fun_mk l_first_of c_first_of k_first_of, b_first_of := (fun_mk (st := s_first_of) l_first_of c_first_of k_first_of).binds (ps := ["number"]) fun _ _ _ _ _ _ us hl => match us, hl with | [_], _ => rfl, m_first_of := PySem.W.mg_of X G a_first_of,
    a_least_steps := x_least_steps, d_least_steps := PySem.W.fnOf "least_steps" "least_steps" (defArgs s_least_steps) (defBody s_least_steps) (defScope s_least_steps) .none kV_least_steps dc_least_steps pm_least_steps an_least_steps cd_least_steps ct_least_steps, F_least_steps := fun_mk l_least_steps c_least_steps k_least_steps, b_least_steps := (fun_mk (st := s_least_steps) l_least_steps c_least_steps k_least_steps).binds (ps := ["number"]) fun _ _ _ _ _ _ us hl => match us, hl with | [_], _ => rfl, m_least_steps := PySem.W.mg_of X G a_least_steps,
    a_cheapest := x_cheapest, d_cheapest := PySem.W.fnOf "cheapest" "cheapest" (defArgs s_cheapest) (defBody s_cheapest) (defScope s_cheapest) .none kV_cheapest dc_cheapest pm_cheapest an_cheapest cd_cheapest ct_cheapest, F_cheapest := fun_mk l_cheapest c_cheapest k_cheapest, b_cheapest := (fun_mk (st := s_cheapest) l_cheapest c_cheapest k_cheapest).binds (ps := ["number", "add", "shift"]) fun _ _ _ _ _ _ us hl => match us, hl with | [_, _, _], _ => rfl, m_cheapest := PySem.W.mg_of X G a_cheapest,
    a__law_raised := x__law_raised, d__law_raised := PySem.W.fnOf "_law_raised" "_law_raised" (defArgs s__law_raised) (defBody s__law_raised) (defScope s__law_raised) .none kV__law_raised dc__law_raised pm__law_raised an__law_raised cd__law_raised ct__law_raised, F__law_raised := fun_mk l__law_raised c__law_raised k__law_raised, b__law_raised := (fun_mk (st := s__law_raised) l__law_raised c__law_raised k__law_raised).binds (ps := ["place"]) fun _ _ _ _ _ _ us hl => match us, hl with | [_], _ => rfl, m__law_raised := PySem.W.mg_of X G a__law_raised,
    a__law_fewest := x__law_fewest, d__law_fewest := PySem.W.fnOf "_law_fewest" "_law_fewest" (defArgs s__law_fewest) (defBody s__law_fewest) (defScope s__law_fewest) .none kV__law_fewest dc__law_fewest pm__law_fewest an__law_fewest cd__law_fewest ct__law_fewest, F__law_fewest := fun_mk l__law_fewest c__law_fewest k__law_fewest, b__law_fewest := (fun_mk (st := s__law_fewest) l__law_fewest c__law_fewest k__law_fewest).binds (ps := ["number"]) fun _ _ _ _ _ _ us hl => match us, hl with | [_], _ => rfl, m__law_fewest := PySem.W.mg_of X G a__law_fewest,
    a_law := x_law, d_law := PySem.W.fnOf "law" "law" (defArgs s_law) (defBody s_law) (defScope s_law) .none kV_law dc_law pm_law an_law cd_law ct_law, F_law := fun_mk l_law c_law k_law, b_law := (fun_mk (st := s_law) l_law c_law k_law).binds (ps := ["script"]) fun _ _ _ _ _ _ us hl => match us, hl with | [_], _ => rfl, m_law := PySem.W.mg_of X G a_law,
    z_abs := PySem.W.mg_none_of X G z_abs,
    z_enumerate := PySem.W.mg_none_of X G z_enumerate,
    z_int := PySem.W.mg_none_of X G z_int,
    z_len := PySem.W.mg_none_of X G z_len,
    z_min := PySem.W.mg_none_of X G z_min,
    z_range := PySem.W.mg_none_of X G z_range,
    z_repr := PySem.W.mg_none_of X G z_repr,
    z_set := PySem.W.mg_none_of X G z_set,
    z_sorted := PySem.W.mg_none_of X G z_sorted,
    z_sum := PySem.W.mg_none_of X G z_sum,
    c_MOST_BINARY := ⟨_, PySem.W.mg_of X G q_MOST_BINARY⟩,
    c_MOST_NUMBER := ⟨_, PySem.W.mg_of X G q_MOST_NUMBER⟩,
    c_MOST_PRICE := ⟨_, PySem.W.mg_of X G q_MOST_PRICE⟩ }, ?_, fun s u => .of_eq rfl⟩
  cases e
  rfl
end LW

set_option Elab.async false
set_option linter.all false
/-! M0: plain lemmas over the mirrors' combinators. -/
namespace PL
variable {Γ Γ' Γb ρ τ α β ι : Type}
theorem seqO_nx {s : Γ} {k : Γ → Option (Out Γ' ρ)} : seqO (some (.nx s)) k = k s := of_eq_true (eq_true rfl)
theorem seqO_rt {r : ρ} {k : Γ → Option (Out Γ' ρ)} : seqO (some (.rt r)) k = some (.rt r) := of_eq_true (eq_true rfl)
theorem seqO_none {k : Γ → Option (Out Γ' ρ)} : seqO none k = none := of_eq_true (eq_true rfl)
theorem outF_rt {d : Option ρ} {r : ρ} : outF d (some (.rt r : Out Γ ρ)) = some r := of_eq_true (eq_true rfl)
theorem outF_nx {d : Option ρ} {s : Γ} : outF d (some (.nx s : Out Γ ρ)) = d := of_eq_true (eq_true rfl)
theorem bsome {a : α} {f : α → Option β} : (some a).bind f = f a := of_eq_true (eq_true rfl)
theorem whileO_zero {c : Γ → Option Bool} {b : Γ → Option (Out Γ ρ)} {g : Γ} : whileO c b 0 g = none := of_eq_true (eq_true rfl)
theorem whileO_succ {c : Γ → Option Bool} {b : Γ → Option (Out Γ ρ)} {n : Nat} {g : Γ} : whileO c b (n + 1) g = (c g).bind fun t => if t = true then seqO (b g) (whileO c b n) else some (.nx g) := of_eq_true (eq_true rfl)
theorem forO_nil {set : Γ → ι → Γb} {b : Γb → Option (Out Γ ρ)} {g : Γ} : forO set b [] g = some (.nx g) := of_eq_true (eq_true rfl)
theorem forO_cons {set : Γ → ι → Γb} {b : Γb → Option (Out Γ ρ)} {x : ι} {xs : List ι} {g : Γ} : forO set b (x :: xs) g = seqO (b (set g x)) (forO set b xs) := of_eq_true (eq_true rfl)
theorem iMod_eq {x y : Int} (h : 0 < y) : iMod x y = some (x % y) := if_pos h
theorem log2_lt64 {x : Int} {n : Nat} (h1 : -(2 ^ n) < x) (h2 : x < 2 ^ n) (hn : 0 < n) : x.natAbs.log2 < n := by
  have hp : ((2 : Int) ^ n) = ((2 ^ n : Nat) : Int) := by simp
  by_cases h : x.natAbs = 0
  · rw [h]; simp; exact hn
  · rw [Nat.log2_lt h]
    omega
theorem iDiv_eq {x y : Int} (h : 0 < y) (h2 : y < 2 ^ 64) : iDiv x y = some (x / y) := if_pos ⟨h, Nat.lt_of_lt_of_le (log2_lt64 (n := 64) (by omega) h2 (by decide)) (by decide)⟩
theorem iMul_eq {x y : Int} (h1 : -(2 ^ 64) < x ∧ x < 2 ^ 64) (h2 : -(2 ^ 64) < y ∧ y < 2 ^ 64) : iMul x y = some (x * y) := by
  have a := log2_lt64 (n := 64) h1.1 h1.2 (by decide)
  have b := log2_lt64 (n := 64) h2.1 h2.2 (by decide)
  exact if_pos (by omega)
theorem iMul_bits {x y : Int} (h : x.natAbs.log2 + y.natAbs.log2 < 1000000) : iMul x y = some (x * y) := if_pos h
theorem sizeLine_val : PySem.sizeLine = 16777216 := by decide
theorem push_eq {l : List τ} {t : τ} (h : l.length < 16777216) : push l t = some (l ++ [t]) := if_pos (by rw [sizeLine_val]; exact h)
theorem lNew_eq {l : List τ} (h : l.length ≤ 16777216) : lNew l = some l := if_pos (by rw [sizeLine_val]; exact h)
theorem lCat_eq {l r : List τ} (h : l.length + r.length ≤ 16777216) : lCat l r = some (l ++ r) := if_pos (by rw [sizeLine_val]; exact h)
theorem tCat_eq {l r : Tx} (h : l.cs.length + r.cs.length ≤ 16777216) : tCat l r = some ⟨l.cs ++ r.cs⟩ := if_pos (by rw [sizeLine_val]; exact h)
theorem rng1_eq {j : Int} (h : j < 2 ^ 62) (h0 : -(2 ^ 62) ≤ j) : rng1 j = some (rng 0 j.toNat) := if_pos ⟨h0, h⟩
theorem rng2_eq {i j : Int} (h : -(2 ^ 62) ≤ i ∧ i < 2 ^ 62) (h' : -(2 ^ 62) ≤ j ∧ j < 2 ^ 62) : rng2 i j = some (rng i (j - i).toNat) := if_pos ⟨h, h'⟩
theorem rng_mem {lo x : Int} {n : Nat} (h : x ∈ rng lo n) : lo ≤ x ∧ x < lo + n := by
  unfold rng at h
  obtain ⟨i, hi, rfl⟩ := List.mem_map.mp h
  have := List.mem_range.mp hi
  omega
theorem rng_zero {lo : Int} : rng lo 0 = [] := rfl
theorem rng_succ {lo : Int} {n : Nat} : rng lo (n + 1) = lo :: rng (lo + 1) n := by
  unfold rng
  rw [List.range_succ_eq_map, List.map_cons, List.map_map]
  congr 1
  · simp
  · exact List.map_congr_left fun i _ => by simp only [Function.comp]; omega
theorem atI_some {l : List τ} {i : Int} (h : 0 ≤ i) (h2 : i < l.length) : ∃ x, L2.atI l i = some x ∧ x ∈ l := by
  have hi : i.toNat < l.length := by omega
  refine ⟨l[i.toNat], ?_, List.getElem_mem hi⟩
  have h3 := L2.atI_nat (xs := l) (j := i.toNat) (v := l[i.toNat]) (by simp)
  rw [Int.toNat_of_nonneg h] at h3
  exact h3
/-- a for that goes through, by an invariant over the items behind -/
theorem forO_all {set : Γ → ι → Γb} {b : Γb → Option (Out Γ ρ)} (I : Nat → Γ → Prop) : ∀ (xs : List ι) (i : Nat) (g : Γ), I i g → (∀ j x g, xs[j]? = some x → I (i + j) g → ∃ g', b (set g x) = some (.nx g') ∧ I (i + j + 1) g') → ∃ g', forO set b xs g = some (.nx g') ∧ I (i + xs.length) g'
  | [], i, g, h, _ => ⟨g, rfl, h⟩
  | x :: xs, i, g, h, st => by
    obtain ⟨g1, e1, h1⟩ := st 0 x g rfl h
    obtain ⟨g2, e2, h2⟩ := forO_all I xs (i + 1) g1 h1 fun j y g hy hI => by
      have := st (j + 1) y g hy (by rw [show i + (j + 1) = i + 1 + j by omega]; exact hI)
      rw [show i + 1 + j + 1 = i + (j + 1) + 1 by omega]
      exact this
    refine ⟨g2, ?_, by rw [List.length_cons, show i + (xs.length + 1) = i + 1 + xs.length by omega]; exact h2⟩
    rw [forO_cons, e1, seqO_nx]
    exact e2
/-- a for whose state is told by the turn -/
theorem forO_eq {set : Γ → ι → Γb} {b : Γb → Option (Out Γ ρ)} (G : Nat → Γ) (xs : List ι) (st : ∀ j x, xs[j]? = some x → b (set (G j) x) = some (.nx (G (j + 1)))) : forO set b xs (G 0) = some (.nx (G xs.length)) := by
  obtain ⟨g, e, h⟩ := forO_all (fun i g => g = G i) xs 0 (G 0) rfl fun j x g hx hg => by
    have hg : g = G (0 + j) := hg
    rw [Nat.zero_add] at hg
    subst hg
    exact ⟨_, st j x hx, by rw [Nat.zero_add]⟩
  have h : g = G (0 + xs.length) := h
  rw [Nat.zero_add] at h
  rw [e, h]
theorem forO_same {set : Γ → ι → Γb} {b : Γb → Option (Out Γ ρ)} {g : Γ} {xs : List ι} (st : ∀ x ∈ xs, b (set g x) = some (.nx g)) : forO set b xs g = some (.nx g) :=
  forO_eq (fun _ => g) xs fun j x hx => st x (List.mem_of_getElem? hx)
/-- a while, by an invariant and a measure -/
theorem whileO_all {c : Γ → Option Bool} {b : Γ → Option (Out Γ ρ)} (I : Γ → Prop) (m : Γ → Nat) (st : ∀ g, I g → c g = some false ∨ (c g = some true ∧ ∃ g', b g = some (.nx g') ∧ I g' ∧ m g' < m g)) : ∀ (n : Nat) (g : Γ), I g → m g < n → ∃ g', whileO c b n g = some (.nx g') ∧ I g' ∧ c g' = some false
  | 0, g, _, h => absurd h (Nat.not_lt_zero _)
  | n + 1, g, hI, hm => by
    rw [whileO_succ]
    rcases st g hI with h | ⟨h, g', e, hI', hm'⟩
    · exact ⟨g, by rw [h]; rfl, hI, h⟩
    · obtain ⟨g2, e2, r⟩ := whileO_all I m st n g' hI' (by omega)
      exact ⟨g2, by rw [h, bsome, if_pos rfl, e, seqO_nx]; exact e2, r⟩
/-- a while whose state is told by the turn -/
theorem whileO_eq {c : Γ → Option Bool} {b : Γ → Option (Out Γ ρ)} (G : Nat → Γ) (N : Nat) (st : ∀ j, j < N → c (G j) = some true ∧ b (G j) = some (.nx (G (j + 1)))) (en : c (G N) = some false) : ∀ (n : Nat), N < n → whileO c b n (G 0) = some (.nx (G N)) := by
  have go : ∀ (k j n : Nat), j + k = N → k < n → whileO c b n (G j) = some (.nx (G N)) := by
    intro k
    induction k with
    | zero =>
      intro j n hj hn
      obtain ⟨n, rfl⟩ : ∃ m, n = m + 1 := ⟨n - 1, by omega⟩
      have : j = N := by omega
      subst this
      rw [whileO_succ, en]
      rfl
    | succ k ih =>
      intro j n hj hn
      obtain ⟨n, rfl⟩ : ∃ m, n = m + 1 := ⟨n - 1, by omega⟩
      obtain ⟨h1, h2⟩ := st j (by omega)
      rw [whileO_succ, h1, bsome, if_pos rfl, h2, seqO_nx]
      exact ih (j + 1) n (by omega) (by omega)
  exact fun n hn => go N 0 n (Nat.zero_add _) hn
end PL

set_option Elab.async false
set_option linter.all false
set_option maxRecDepth 100000
namespace PL
open PySem
theorem dNin_int (x : Int) (ys : List Int) : dNin x ys = some (!decide (x ∈ ys)) := by
  unfold dNin
  rw [if_pos]
  refine ⟨rfl, ?_⟩
  show ys.all (fun _ => true) = true
  simp
theorem at_last {l : List Int} {x : Int} : L2.atI (l ++ [x]) (-1) = some x := L2.atI_last l x
theorem compO_eq {Γb ι τ : Type} {t : Γb → Option Bool} {f : Γb → Option τ} {set : ι → Γb} {p : ι → Bool} {h : ι → τ} : ∀ {xs : List ι}, (∀ x ∈ xs, t (set x) = some (p x)) → (∀ x ∈ xs, p x = true → f (set x) = some (h x)) → compO t f set xs = some ((xs.filter p).map h)
  | [], _, _ => rfl
  | x :: xs, h1, h2 => by
    have ih := compO_eq (xs := xs) (fun y hy => h1 y (List.mem_cons_of_mem _ hy)) (fun y hy => h2 y (List.mem_cons_of_mem _ hy))
    rw [compO, h1 x List.mem_cons_self, bsome]
    by_cases hp : p x = true
    · rw [if_pos hp, h2 x List.mem_cons_self hp, bsome, ih, bsome, List.filter_cons_of_pos hp, List.map_cons]
    · rw [if_neg hp, ih, List.filter_cons_of_neg hp]
theorem cast_mod (a b : Nat) : ((a : Nat) : Int) % ((b : Nat) : Int) = ((a % b : Nat) : Int) := by push_cast; rfl
theorem cast_div (a b : Nat) : ((a : Nat) : Int) / ((b : Nat) : Int) = ((a / b : Nat) : Int) := by push_cast; rfl
theorem bret {α : Type} {x : Option α} : (x.bind fun y => some y) = x := by cases x <;> rfl
theorem jL_one : ∀ l : List Nat, jL [] (l.map fun c => [c]) = l
  | [] => rfl
  | [c] => rfl
  | c :: d :: l => by
    have h := jL_one (d :: l)
    show [c] ++ ([] ++ jL [] ((d :: l).map fun c => [c])) = _
    rw [h]
    rfl
theorem compO_all {Γb ι τ : Type} {t : Γb → Option Bool} {f : Γb → Option τ} {set : ι → Γb} {h : ι → τ} : ∀ {xs : List ι}, (∀ x ∈ xs, t (set x) = some true) → (∀ x ∈ xs, f (set x) = some (h x)) → compO t f set xs = some (xs.map h)
  | [], _, _ => rfl
  | x :: xs, h1, h2 => by
    have ih := compO_all (xs := xs) (fun y hy => h1 y (List.mem_cons_of_mem _ hy)) (fun y hy => h2 y (List.mem_cons_of_mem _ hy))
    rw [compO, h1 x List.mem_cons_self, bsome, if_pos rfl, h2 x List.mem_cons_self, bsome, ih, bsome, List.map_cons]
theorem rShow_tx {t : Tx} (h : t.cs.length ≤ 1000) (h2 : ∀ c ∈ t.cs, c < 1000) : ∃ r, rShow t = some r := by
  refine ⟨_, if_pos ⟨rfl, rfl, ?_, by show 0 ≤ 32; omega⟩⟩
  have := StrLaws.reprText_len ⟨t.cs.toArray⟩ (fun c hc => Nat.lt_trans (h2 c (by simpa using hc)) (by decide))
  have e : (⟨t.cs.toArray⟩ : Str).length = t.cs.length := by show t.cs.toArray.size = _; simp
  rw [e] at this
  show (reprText ⟨t.cs.toArray⟩).length ≤ sizeLine
  rw [sizeLine_val]
  omega
theorem rShow_int {i : Int} (h : i.natAbs.log2 < 1920) : ∃ r, rShow i = some r := by
  refine ⟨_, if_pos ⟨?_, rfl, ?_, by show 0 ≤ 32; omega⟩⟩
  · show decide (i.natAbs.log2 < 1920) = true
    exact decide_eq_true h
  · have := PyProof.Rows.int_text_len_1921 h
    show (PySem.Str.ofString (toString i)).length ≤ sizeLine
    rw [sizeLine_val]
    omega
theorem rShow_pair {i j : Int} (h : i.natAbs.log2 < 1920) (h2 : j.natAbs.log2 < 1920) : ∃ r, rShow (T2.mk i j) = some r := by
  refine ⟨_, if_pos ⟨?_, rfl, ?_, by show 1 ≤ 32; omega⟩⟩
  · show (decide (i.natAbs.log2 < 1920) && (decide (j.natAbs.log2 < 1920) && true)) = true
    rw [decide_eq_true h, decide_eq_true h2]
    rfl
  · have q1 := PyProof.Rows.int_text_len_1921 h
    have q2 := PyProof.Rows.int_text_len_1921 h2
    show (("(" : Str) ++ ((PySem.Str.ofString (toString i)) ++ ", " ++ (PySem.Str.ofString (toString j))) ++ (")" : String)).length ≤ sizeLine
    rw [strLen_append, strLen_append, strLen_append, strLen_append, sizeLine_val]
    have e1 : (("(" : String) : Str).length = 1 := rfl
    have e2 : ((", " : String) : Str).length = 2 := rfl
    have e3 : ((")" : String) : Str).length = 1 := rfl
    rw [e1, e2, e3]
    omega
theorem rShow_none : ∃ r, rShow (none : Option Int) = some r := by
  refine ⟨_, if_pos ⟨rfl, rfl, ?_, by show 0 ≤ 32; omega⟩⟩
  show (("None" : String) : Str).length ≤ sizeLine
  rw [sizeLine_val]
  decide
theorem iMul_nat {A B : Nat} (hA : A < 2 ^ 64) (hB : B < 2 ^ 64) : iMul (A : Int) (B : Int) = some ((A * B : Nat) : Int) := by
  rw [iMul_eq (by omega) (by omega)]
  push_cast
  rfl
theorem atI_head (L : List Int) : L2.atI ((L.map fun t => some (id t)) ++ [(none : Option Int)]) 0 = some L.head? := by
  cases L with
  | nil => rfl
  | cons a L => exact L2.atI_nat (j := 0) rfl
theorem rShow_opt {x : Option Int} (h : ∀ i, x = some i → i.natAbs.log2 < 1920) : ∃ r, rShow x = some r := by
  cases x with
  | none => exact rShow_none
  | some i => exact rShow_int (h i rfl)
theorem pigeon : ∀ (d : Nat) (l : List Nat), (∀ x ∈ l, x < d) → l.Nodup → l.length ≤ d
  | 0, l, h, _ => by
    cases l with
    | nil => exact Nat.le_refl 0
    | cons a l => have := h a List.mem_cons_self; omega
  | d + 1, l, h, n => by
    by_cases hm : d ∈ l
    · have n2 : (l.erase d).Nodup := n.erase d
      have q := pigeon d (l.erase d) (fun x hx => by
        have h1 := (List.Nodup.mem_erase_iff n).mp hx
        have := h x h1.2
        have := h1.1
        omega) n2
      rw [List.length_erase_of_mem hm] at q
      omega
    · have q := pigeon d l (fun x hx => by
        have := h x hx
        have : x ≠ d := fun z => hm (z ▸ hx)
        omega) n
      omega
theorem dvd_pw {n P : Nat} (h : 0 < P) : n ∣ n ^ P := by
  obtain ⟨k, rfl⟩ : ∃ k, P = k + 1 := ⟨P - 1, by omega⟩
  rw [Nat.pow_succ]
  exact Nat.dvd_mul_left n (n ^ k)
theorem cancel_le {n d x y : Nat} (hc : Nat.Coprime d n) (hxy : y ≤ x) (h : n * x % d = n * y % d) : x % d = y % d := by
  have h1 : d ∣ n * x - n * y := Nat.dvd_of_mod_eq_zero (Nat.sub_mod_eq_zero_of_mod_eq h)
  rw [← Nat.mul_sub] at h1
  have h2 : d ∣ x - y := Nat.Coprime.dvd_of_dvd_mul_left hc h1
  obtain ⟨c, e⟩ := h2
  rw [show x = y + d * c by omega, Nat.add_mul_mod_self_left]
theorem cancel {n d x y : Nat} (hc : Nat.Coprime d n) (h : n * x % d = n * y % d) : x % d = y % d := by
  rcases Nat.le_total y x with q | q
  · exact cancel_le hc q h
  · exact (cancel_le hc q h.symm).symm
theorem gcd_cast (a b : Nat) : (Nat.gcd ((a : Int)).natAbs ((b : Int)).natAbs : Nat) = Nat.gcd a b := by simp
theorem cut_to {τ : Type} {xs : List τ} {k : Nat} : cut xs none (some (k : Int)) = xs.take k := by
  unfold cut
  rw [HT.sIx_none, HT.sIx_nat, List.drop_zero, Nat.sub_zero, List.take_eq_take_iff]
  omega
theorem cut_from {τ : Type} {xs : List τ} {k : Nat} : cut xs (some (k : Int)) none = xs.drop k := by
  unfold cut
  rw [HT.sIx_none, HT.sIx_nat]
  by_cases h : k ≤ xs.length
  · rw [Nat.min_eq_left h, List.take_of_length_le (by rw [List.length_drop]; omega)]
  · rw [Nat.min_eq_right (by omega), List.drop_of_length_le (Nat.le_refl _), List.drop_of_length_le (by omega), List.take_nil]
theorem cutT_eq {t : Tx} {lo hi : Option Int} (h : t.cs.length ≤ 16777216) : cutT t lo hi = some ⟨cut t.cs lo hi⟩ := if_pos (by rw [sizeLine_val]; exact h)
theorem iMod_nat {a b : Nat} (h : 0 < b) : iMod (a : Int) (b : Int) = some ((a % b : Nat) : Int) := by rw [iMod_eq (by omega), cast_mod]
theorem iDiv_bits {x y : Int} (h : 0 < y) (h2 : y.natAbs.log2 < 9000) : iDiv x y = some (x / y) := if_pos ⟨h, h2⟩
theorem iDiv_nat {a b : Nat} (h : 0 < b) (h2 : b < 2 ^ 64) : iDiv (a : Int) (b : Int) = some ((a / b : Nat) : Int) := by rw [iDiv_eq (by omega) (by omega), cast_div]
theorem log2_lt_pow {a k : Nat} (h : a < 2 ^ k) : a.log2 < k + 1 := by
  by_cases h0 : a = 0
  · rw [h0]; simp
  · rw [Nat.log2_lt h0, Nat.pow_succ]; omega
theorem iMul_big {a b k m : Nat} (ha : a < 2 ^ k) (hb : b < 2 ^ m) (h : k + m < 999998) : iMul (a : Int) (b : Int) = some ((a * b : Nat) : Int) := by
  have h1 := log2_lt_pow ha
  have h2 := log2_lt_pow hb
  rw [iMul_bits (by simp only [Int.natAbs_natCast]; omega)]
  push_cast
  rfl
theorem iDiv_big {a b k : Nat} (h0 : 0 < b) (hb : b < 2 ^ k) (h : k < 8990) : iDiv (a : Int) (b : Int) = some ((a / b : Nat) : Int) := by
  have h1 := log2_lt_pow hb
  rw [iDiv_bits (by omega) (by simp only [Int.natAbs_natCast]; omega), cast_div]
end PL

set_option Elab.async false
set_option linter.all false
set_option maxRecDepth 100000
set_option exponentiation.threshold 10000
namespace LW
open PL
def BdD (l : List Int) : Prop := ∀ x ∈ l, 0 ≤ x ∧ x < 65536
theorem BdD.app {l : List Int} {x : Int} (h : BdD l) (h0 : 0 ≤ x) (h1 : x < 65536) : BdD (l ++ [x]) := fun y hy => by
  rcases List.mem_append.mp hy with hy | hy
  · exact h y hy
  · have e : y = x := by simpa using hy
    rw [e]; exact ⟨h0, h1⟩
theorem draws_lp0 {ns ds : List Int} {k r t : Int} (hl : ds.length < 4000) (hb : BdD ds) (hr : 0 ≤ r) :
    ∃ ds' r', lp__law_draws_0 ⟨ns, ds, k, r, t, 0⟩ = some (.nx ⟨ns, ds', k, r', 0, 0⟩) ∧ ds'.length ≤ ds.length + 1 ∧ BdD ds' ∧ 0 ≤ r' := by
  unfold lp__law_draws_0
  simp only [bsome]
  by_cases h : r > 0
  · rw [decide_eq_true h]
    simp only [if_pos, bsome, seqO_nx]
    rw [iMod_eq (by decide)]
    simp only [bsome]
    rw [push_eq (by omega)]
    simp only [bsome, seqO_nx]
    rw [iDiv_eq (by decide) (by decide)]
    simp only [bsome, seqO_nx]
    exact ⟨_, _, rfl, by simp, hb.app (by omega) (by omega), by omega⟩
  · rw [decide_eq_false h]
    simp only [Bool.false_eq_true, if_false, seqO_nx]
    exact ⟨_, _, rfl, by omega, hb, hr⟩
theorem draws_lp1 {ns ds : List Int} {k : Int} (hk : 0 ≤ k) (hk2 : k < ns.length) (hk3 : k < 63) (hl : ds.length ≤ 60 * k.toNat) (hb : BdD ds) :
    ∃ ds', lp__law_draws_1 ⟨ns, ds, k, 0, 0, 0⟩ = some (.nx ⟨ns, ds', 0, 0, 0, 0⟩) ∧ ds'.length ≤ 60 * (k.toNat + 1) ∧ BdD ds' := by
  unfold lp__law_draws_1
  obtain ⟨x, hx, _⟩ := atI_some hk hk2
  simp only [bsome, hx, seqO_nx]
  rw [show iPow 10 18 = some 1000000000000000000 by decide +kernel]
  simp only [bsome]
  by_cases h : (x.natAbs : Int) ≥ 1000000000000000000
  · rw [decide_eq_true h]
    simp only [if_pos, seqO_nx]
    rw [rng1_eq (by decide) (by decide)]
    simp only [bsome]
    obtain ⟨g, e, ds', r', rfl, h1, h2, h3⟩ := forO_all (set := fun (s : S__law_draws) (t : Int) => (⟨s.1, s.2, s.3, s.4, t, s.6⟩ : S__law_draws)) (b := lp__law_draws_0) (fun i g => ∃ ds' r', g = ⟨ns, ds', k, r', 0, 0⟩ ∧ ds'.length ≤ ds.length + i ∧ BdD ds' ∧ 0 ≤ r') (rng 0 (Int.toNat 60)) 0 ⟨ns, ds, k, x.natAbs, 0, 0⟩ ⟨ds, _, rfl, by omega, hb, by omega⟩ (by
      rintro j y g hj ⟨ds', r', rfl, h1, h2, h3⟩
      have hj2 := (List.getElem?_eq_some_iff.mp hj).1
      rw [rng_len] at hj2
      have hj3 : j < 60 := hj2
      obtain ⟨d2, r2, e2, h4, h5, h6⟩ := draws_lp0 (ns := ns) (ds := ds') (k := k) (r := r') (t := y) (by omega) h2 h3
      exact ⟨_, e2, d2, r2, rfl, by omega, h5, h6⟩)
    rw [e]
    simp only [seqO_nx]
    refine ⟨_, rfl, ?_, h2⟩
    rw [rng_len] at h1
    have : Int.toNat 60 = 60 := rfl
    omega
  · rw [decide_eq_false h]
    simp only [Bool.false_eq_true, if_false]
    rw [iMul_eq (by omega) (by decide), iMul_eq (by omega) (by decide)]
    simp only [bsome]
    rw [iMod_eq (by decide)]
    simp only [bsome, seqO_nx]
    rw [iMul_eq (by omega) (by decide), iMul_eq (by decide) (by omega)]
    simp only [bsome]
    rw [iMod_eq (by decide)]
    simp only [bsome, seqO_nx]
    rw [iMod_eq (by decide)]
    simp only [bsome]
    rw [push_eq (by omega)]
    simp only [bsome, seqO_nx]
    rw [iDiv_eq (by decide) (by decide)]
    simp only [bsome]
    rw [iMod_eq (by decide)]
    simp only [bsome]
    rw [push_eq (by simp; omega)]
    simp only [bsome, seqO_nx]
    exact ⟨_, rfl, by simp; omega, (hb.app (by omega) (by omega)).app (by omega) (by omega)⟩
theorem draws_ok (ns : List Int) (h : ns.length ≤ 63) : ∃ l, F__law_draws ns = some l ∧ l.length ≤ 3780 ∧ BdD l := by
  unfold F__law_draws fb__law_draws
  simp only [bsome, seqO_nx]
  rw [rng1_eq (by omega) (by omega)]
  simp only [bsome]
  obtain ⟨g, e, ds', rfl, h1, h2⟩ := forO_all (set := fun (s : S__law_draws) (t : Int) => (⟨s.1, s.2, t, s.4, s.5, s.6⟩ : S__law_draws)) (b := lp__law_draws_1) (fun i g => ∃ ds', g = ⟨ns, ds', 0, 0, 0, 0⟩ ∧ ds'.length ≤ 60 * i ∧ BdD ds') (rng 0 (min 63 (ns.length : Int)).toNat) 0 ⟨ns, [], 0, 0, 0, 0⟩ ⟨[], rfl, by simp, fun x hx => absurd hx (by simp)⟩ (by
    rintro j y g hj ⟨ds', rfl, h1, h2⟩
    obtain ⟨h3, rfl⟩ := rng_get hj
    obtain ⟨d2, e2, h4, h5⟩ := draws_lp1 (ns := ns) (ds := ds') (k := 0 + (j : Int)) (by omega) (by omega) (by omega) (by simp at h1 ⊢; omega) h2
    exact ⟨_, e2, d2, rfl, by simp at h4 ⊢; omega, h5⟩)
  rw [e]
  simp only [seqO_nx, seqO_rt, outF_rt]
  exact ⟨_, rfl, by rw [rng_len] at h1; omega, h2⟩
theorem mix_ok {l : List Int} (hb : BdD l) (hl : l.length ≤ 3780) {k m : Int} (hk : 0 ≤ k) (hk2 : k < 100000000) (hm : 0 < m) : ∃ r, F__law_mix l k m = some r ∧ 0 ≤ r ∧ r < m := by
  unfold F__law_mix fb__law_mix
  simp only [bsome, seqO_nx]
  by_cases h : (l.length : Int) > 0
  · rw [decide_eq_true h]
    simp only [if_pos]
    rw [iMod_eq h]
    simp only [bsome]
    obtain ⟨x, hx, hmem⟩ := atI_some (l := l) (i := k % l.length) (Int.emod_nonneg _ (by omega)) (Int.emod_lt_of_pos _ h)
    rw [hx]
    simp only [bsome, seqO_nx]
    have hx1 := (hb x hmem).1
    have hx2 := (hb x hmem).2
    by_cases h2 : k < (l.length : Int)
    · rw [decide_eq_true h2]
      simp only [if_pos]
      rw [iMod_eq hm]
      simp only [bsome, seqO_rt, outF_rt]
      exact ⟨_, rfl, Int.emod_nonneg _ (by omega), Int.emod_lt_of_pos _ hm⟩
    · rw [decide_eq_false h2]
      simp only [Bool.false_eq_true, if_false, seqO_nx]
      rw [iMul_eq (by omega) (by decide), iMul_eq (by omega) (by decide)]
      simp only [bsome]
      rw [iDiv_eq (by decide) (by decide)]
      simp only [bsome]
      rw [iMod_eq hm]
      simp only [bsome, seqO_rt, outF_rt]
      exact ⟨_, rfl, Int.emod_nonneg _ (by omega), Int.emod_lt_of_pos _ hm⟩
  · rw [decide_eq_false h]
    simp only [Bool.false_eq_true, if_false, seqO_nx, bsome]
    by_cases h2 : k < (l.length : Int)
    · rw [decide_eq_true h2]
      simp only [if_pos]
      rw [iMod_eq hm]
      simp only [bsome, seqO_rt, outF_rt]
      exact ⟨_, rfl, Int.emod_nonneg _ (by omega), Int.emod_lt_of_pos _ hm⟩
    · rw [decide_eq_false h2]
      simp only [Bool.false_eq_true, if_false, seqO_nx]
      rw [iMul_eq (by omega) (by decide), iMul_eq (by omega) (by decide)]
      simp only [bsome]
      rw [iDiv_eq (by decide) (by decide)]
      simp only [bsome]
      rw [iMod_eq hm]
      simp only [bsome, seqO_rt, outF_rt]
      exact ⟨_, rfl, Int.emod_nonneg _ (by omega), Int.emod_lt_of_pos _ hm⟩
end LW

set_option Elab.async false
set_option linter.all false
set_option maxRecDepth 100000
set_option exponentiation.threshold 10000
namespace LW
open PL
open PySem (PyData)
theorem bassoc {α β γ : Type} {x : Option α} {f : α → Option β} {g : β → Option γ} : (x.bind f).bind g = x.bind fun a => (f a).bind g := by cases x <;> rfl
/-! repr of lists -/
abbrev shI (i : Int) : Prop := i.natAbs.log2 < 1920
theorem all_show {ds : List PyData} (h : ∀ d ∈ ds, d.showable = true) : PyData.showableAll ds = true := by
  induction ds with
  | nil => rfl
  | cons d ds ih =>
    show (d.showable && PyData.showableAll ds) = true
    rw [h d List.mem_cons_self, ih fun x hx => h x (List.mem_cons_of_mem _ hx)]
    rfl
theorem all_nd {ds : List PyData} (h : ∀ d ∈ ds, d.hasDict = false) : PyData.hasDictAll ds = false := by
  induction ds with
  | nil => rfl
  | cons d ds ih =>
    simp [PyData.hasDictAll, h d List.mem_cons_self, ih fun x hx => h x (List.mem_cons_of_mem _ hx)]
theorem all_short {B : Nat} {ds : List PyData} (h : ∀ d ∈ ds, d.leavesShort B = true) : PyData.leavesShortAll B ds = true := by
  induction ds with
  | nil => rfl
  | cons d ds ih =>
    show (d.leavesShort B && PyData.leavesShortAll B ds) = true
    rw [h d List.mem_cons_self, ih fun x hx => h x (List.mem_cons_of_mem _ hx)]
    rfl
theorem all_bulk {k : Nat} {ds : List PyData} (h : ∀ d ∈ ds, d.bulk ≤ k) : PyData.bulkAll ds ≤ (k + 1) * ds.length := by
  induction ds with
  | nil => exact Nat.zero_le _
  | cons d ds ih =>
    have := ih fun x hx => h x (List.mem_cons_of_mem _ hx)
    have h1 := h d List.mem_cons_self
    show d.bulk + 1 + PyData.bulkAll ds ≤ _
    rw [List.length_cons, Nat.mul_add]
    omega
theorem rShow_list {τ : Type} [Enc τ] {k : Nat} {L : List τ} (hk : k ≤ 4) (hl : L.length ≤ 1000) (h1 : ∀ t ∈ L, (Enc.enc t).showable = true) (h2 : ∀ t ∈ L, (Enc.enc t).hasDict = false) (h3 : ∀ t ∈ L, (Enc.enc t).leavesShort 2000 = true) (h4 : ∀ t ∈ L, (Enc.enc t).bulk ≤ k)
    (h5 : ∀ t ∈ L, (Enc.enc t).depth ≤ 30) : ∃ r, rShow L = some r := by
  have m : ∀ {P : PyData → Prop}, (∀ t ∈ L, P (Enc.enc t)) → ∀ d ∈ L.map Enc.enc, P d := fun h d hd => by
    obtain ⟨t, ht, rfl⟩ := List.mem_map.mp hd
    exact h t ht
  refine ⟨_, if_pos ⟨?_, ?_, ?_, ?_⟩⟩
  · show (PyData.list (L.map Enc.enc)).showable = true
    exact all_show (m h1)
  · show (PyData.list (L.map Enc.enc)).hasDict = false
    simpa [PyData.hasDict] using all_nd (m h2)
  · have := PySem.PyData.shown_le_bulk 2000 (by decide) (PyData.list (L.map Enc.enc)) (by show PyData.leavesShortAll 2000 _ = true; exact all_short (m h3))
    have hb : (PyData.list (L.map Enc.enc)).bulk ≤ 5 * L.length := by
      show PyData.bulkAll _ ≤ _
      have := all_bulk (k := 4) (m fun t ht => Nat.le_trans (h4 t ht) hk)
      rw [List.length_map] at this
      omega
    show (PyData.list (L.map Enc.enc)).shown.length ≤ _
    rw [sizeLine_val]
    have h6 : 2002 * (PyData.list (L.map Enc.enc)).bulk ≤ 2002 * (5 * 1000) := Nat.mul_le_mul_left _ (by omega)
    omega
  · show (PyData.list (L.map Enc.enc)).depth ≤ 32
    have := PL.depthAll_le (m h5)
    unfold PyData.depth
    omega
theorem short_int {i : Int} (h : shI i) : (PyData.int i).leavesShort 2000 = true := by
  have := PyProof.Rows.int_text_len_1921 h
  show decide ((PyData.shown (.int i)).length ≤ 2000) = true
  refine decide_eq_true ?_
  show (PySem.Str.ofString (toString i)).length ≤ 2000
  omega
theorem rShow_ints {L : List Int} (hl : L.length ≤ 1000) (h : ∀ x ∈ L, shI x) : ∃ r, rShow L = some r :=
  rShow_list (k := 0) (by decide) hl (fun t ht => decide_eq_true (h t ht)) (fun _ _ => rfl) (fun t ht => short_int (h t ht)) (fun _ _ => Nat.le_refl _) (fun _ _ => by show 0 ≤ 30; omega)
theorem rShow_pairs {L : List (T2 Int Int)} (hl : L.length ≤ 1000) (h : ∀ x ∈ L, shI x.a ∧ shI x.b) : ∃ r, rShow L = some r :=
  rShow_list (k := 2) (by decide) hl (fun t ht => by
    show (decide (t.a.natAbs.log2 < 1920) && (decide (t.b.natAbs.log2 < 1920) && true)) = true
    rw [decide_eq_true (h t ht).1, decide_eq_true (h t ht).2]
    rfl) (fun _ _ => rfl) (fun t ht => by
    show ((PyData.int t.a).leavesShort 2000 && ((PyData.int t.b).leavesShort 2000 && true)) = true
    rw [short_int (h t ht).1, short_int (h t ht).2]
    rfl) (fun _ _ => Nat.le_refl _) (fun _ _ => by show 1 ≤ 30; omega)
theorem shI_of {i : Int} (h1 : -(2 ^ 1000) < i) (h2 : i < 2 ^ 1000) : shI i := Nat.lt_trans (log2_lt64 h1 h2 (by decide)) (by decide)
theorem iMul_sm {x y : Int} (h1 : -(2 ^ 200) < x ∧ x < 2 ^ 200) (h2 : -(2 ^ 200) < y ∧ y < 2 ^ 200) : iMul x y = some (x * y) :=
  iMul_bits (by
    have := log2_lt64 h1.1 h1.2 (by decide)
    have := log2_lt64 h2.1 h2.2 (by decide)
    omega)
/-! powers of two -/
theorem two_pow_lt {k m : Nat} (h : k ≤ m) : (2 : Int) ^ k ≤ 2 ^ m := by
  have : (2 : Nat) ^ k ≤ 2 ^ m := Nat.pow_le_pow_right (by decide) h
  exact_mod_cast this
theorem two_pow_pos {k : Nat} : (0 : Int) < 2 ^ k := Int.pow_pos (by decide)
theorem raised_ok {k : Nat} (hk : k ≤ 60) : F__law_raised (k : Int) = some (2 ^ k) := by
  unfold F__law_raised fb__law_raised
  simp only [bsome, seqO_nx]
  rw [rng1_eq (by omega) (by omega)]
  simp only [bsome]
  have hl := forO_eq (set := fun (s : S__law_raised) (t : Int) => { s with v_turn := t }) (b := lp__law_raised_0) (fun j => (⟨(k : Int), 2 ^ j, 0⟩ : S__law_raised)) (rng 0 (k : Int).toNat) (fun j x hx => by
    have hj : j < k := by
      have := (List.getElem?_eq_some_iff.mp hx).1
      unfold rng at this
      rw [List.length_map, List.length_range, Int.toNat_natCast] at this
      exact this
    unfold lp__law_raised_0
    simp only [bsome]
    have h1 := two_pow_lt (k := j) (m := 60) (by omega)
    have h2 := two_pow_pos (k := j)
    rw [iMul_sm (by decide) ⟨by omega, by omega⟩]
    simp only [bsome, seqO_nx]
    rw [Int.pow_succ, Int.mul_comm])
  have hlen : (rng 0 (k : Int).toNat).length = k := by
    unfold rng
    rw [List.length_map, List.length_range, Int.toNat_natCast]
  rw [hlen, Int.pow_zero] at hl
  rw [hl]
  simp only [seqO_nx, seqO_rt, outF_rt]
theorem doubled_ok {k : Nat} {x : Int} (hk : k ≤ 60) (h1 : -(2 ^ 60) < x) (h2 : x < 2 ^ 60) : F_doubled x (k : Int) = some (x * 2 ^ k) := by
  unfold F_doubled fb_doubled
  simp only [bsome, seqO_nx]
  rw [rng1_eq (by omega) (by omega)]
  simp only [bsome]
  have hl := forO_eq (set := fun (s : S_doubled) (t : Int) => { s with v__ := t }) (b := lp_doubled_0) (fun j => (⟨x * 2 ^ j, (k : Int), 0⟩ : S_doubled)) (rng 0 (k : Int).toNat) (fun j y hx => by
    have hj : j < k := by
      have := (List.getElem?_eq_some_iff.mp hx).1
      unfold rng at this
      rw [List.length_map, List.length_range, Int.toNat_natCast] at this
      exact this
    unfold lp_doubled_0
    simp only [bsome]
    have h3 := two_pow_lt (k := j) (m := 60) (by omega)
    have h4 := two_pow_pos (k := j)
    have h5 : x * 2 ^ j ≤ 2 ^ 60 * 2 ^ 60 := Int.le_trans (Int.mul_le_mul_of_nonneg_right (Int.le_of_lt h2) (Int.le_of_lt h4)) (Int.mul_le_mul_of_nonneg_left h3 (by decide))
    have h6 : -(2 ^ 60) * 2 ^ 60 ≤ x * 2 ^ j := Int.le_trans (Int.mul_le_mul_of_nonpos_left (by decide) h3) (Int.mul_le_mul_of_nonneg_right (Int.le_of_lt h1) (Int.le_of_lt h4))
    rw [iMul_sm (by decide) ⟨by omega, by omega⟩]
    simp only [bsome, seqO_nx]
    rw [Int.mul_comm 2, Int.mul_assoc, ← Int.pow_succ])
  have hlen : (rng 0 (k : Int).toNat).length = k := by
    unfold rng
    rw [List.length_map, List.length_range, Int.toNat_natCast]
  rw [hlen, Int.pow_zero, Int.mul_one] at hl
  rw [hl]
  simp only [seqO_nx, seqO_rt, outF_rt]
end LW

set_option Elab.async false
set_option linter.all false
set_option maxRecDepth 100000
set_option exponentiation.threshold 10000
namespace LW
open PL
/-! the signed digits that lie apart -/
def dg (r : Nat) : Int := if r % 2 = 1 then 2 - (r % 4 : Nat) else 0
def nx (r : Nat) : Nat := (r + if r % 4 = 3 then 1 else 0) / 2
def naf : Nat → Nat → List Int
  | 0, _ => []
  | f + 1, r => if r = 0 then [] else dg r :: naf f (nx r)
theorem dg_nx (r : Nat) : dg r + 2 * (nx r : Int) = r := by
  unfold dg nx
  split <;> split <;> omega
theorem dg_cases (r : Nat) : dg r = 0 ∨ dg r = 1 ∨ dg r = -1 := by
  unfold dg
  split
  · have : r % 4 = 1 ∨ r % 4 = 3 := by omega
    rcases this with h | h
    · rw [h]; exact .inr (.inl rfl)
    · rw [h]; exact .inr (.inr rfl)
  · exact .inl rfl
theorem dg_even {r : Nat} (h : r % 2 = 0) : dg r = 0 := by
  unfold dg
  rw [if_neg (by omega)]
theorem dg_odd {r : Nat} (h : dg r ≠ 0) : nx r % 2 = 0 := by
  unfold dg at h
  unfold nx
  split at h
  · split <;> omega
  · exact absurd rfl h
theorem nx_le {r k : Nat} (h : r ≤ 2 ^ (k + 1)) : nx r ≤ 2 ^ k := by
  rw [Nat.pow_succ] at h
  unfold nx
  split <;> omega
theorem nx_one {r : Nat} (h : r ≤ 1) : nx r = 0 := by
  unfold nx
  rcases (show r = 0 ∨ r = 1 by omega) with rfl | rfl
  · rfl
  · rfl
theorem naf_zero (f : Nat) : naf f 0 = [] := by
  cases f with
  | zero => rfl
  | succ f => unfold naf; rw [if_pos rfl]
theorem naf_fuel : ∀ (f g r : Nat), r ≤ 2 ^ f → f ≤ g → naf (g + 1) r = naf (f + 1) r
  | f, g, 0, _, _ => by rw [naf_zero, naf_zero]
  | 0, g, r + 1, h, hg => by
    have h1 : r + 1 = 1 := by omega
    have e : nx (r + 1) = 0 := nx_one (by omega)
    unfold naf
    rw [if_neg (by omega), if_neg (by omega), e, naf_zero, naf_zero]
  | f + 1, 0, r + 1, h, hg => absurd hg (by omega)
  | f + 1, g + 1, r + 1, h, hg => by
    have := naf_fuel f g (nx (r + 1)) (nx_le h) (by omega)
    rw [naf, if_neg (by omega), this, naf.eq_def (f + 1 + 1), ]
    simp
theorem naf_len : ∀ (f r : Nat), (naf f r).length ≤ f
  | 0, _ => Nat.le_refl _
  | f + 1, r => by
    unfold naf
    split
    · exact Nat.zero_le _
    · rw [List.length_cons]
      exact Nat.succ_le_succ (naf_len f _)
theorem lean_loop {n : Int} : ∀ (f m r : Nat) (found : List Int), r ≤ 2 ^ f → f + 1 < m → (found ≠ [] ∨ r ≠ 0) → found.length + f < 1000 →
    whileO lc_lean_row_1 lp_lean_row_0 m ⟨n, found, (r : Int), 0⟩ = some (.nx ⟨n, found ++ naf (f + 1) r, 0, 0⟩) := by
  have stop : ∀ (m : Nat) (found : List Int), found ≠ [] → whileO lc_lean_row_1 lp_lean_row_0 (m + 1) ⟨n, found, ((0 : Nat) : Int), 0⟩ = some (.nx ⟨n, found, 0, 0⟩) := fun m found h => by
    have hl : 0 < found.length := List.length_pos_iff.mpr h
    rw [whileO_succ, show lc_lean_row_1 ⟨n, found, ((0 : Nat) : Int), 0⟩ = some false by
      unfold lc_lean_row_1
      simp only [bsome]
      rw [show (!decide ((((0 : Nat)) : Int) = 0)) = false by decide, if_neg (by decide), decide_eq_false (by omega)], bsome, if_neg (by decide)]
    rfl
  have step : ∀ (m r : Nat) (found : List Int), r ≠ 0 → found.length < 1000 → whileO lc_lean_row_1 lp_lean_row_0 (m + 1) ⟨n, found, (r : Int), 0⟩ = whileO lc_lean_row_1 lp_lean_row_0 m ⟨n, found ++ [dg r], (nx r : Int), 0⟩ := fun m r found h hl => by
    have c1 : lc_lean_row_1 ⟨n, found, (r : Int), 0⟩ = some true := by
      unfold lc_lean_row_1
      simp only [bsome]
      rw [decide_eq_false (by omega)]
      rfl
    have c2 : lp_lean_row_0 ⟨n, found, (r : Int), 0⟩ = some (.nx ⟨n, found ++ [dg r], (nx r : Int), 0⟩) := by
      have hd := dg_nx r
      unfold lp_lean_row_0
      simp only [bsome, seqO_nx]
      rw [iMod_eq (by decide), iMod_eq (by decide)]
      simp only [bsome, seqO_nx]
      by_cases q : r % 2 = 1
      · rw [decide_eq_true (show (r : Int) % 2 = 1 by omega), if_pos rfl]
        simp only [seqO_nx]
        rw [show (2 : Int) - (r : Int) % 4 = dg r by unfold dg; rw [if_pos q]; push_cast; rfl, push_eq (by omega)]
        simp only [bsome, seqO_nx]
        rw [iDiv_eq (by decide) (by decide), show ((r : Int) - dg r) / 2 = (nx r : Int) by omega]
        simp only [bsome, seqO_nx]
      · have e0 : dg r = 0 := dg_even (by omega)
        rw [decide_eq_false (show ¬ (r : Int) % 2 = 1 by omega), if_neg (by decide)]
        simp only [seqO_nx]
        rw [push_eq (by omega), e0]
        simp only [bsome, seqO_nx]
        rw [iDiv_eq (by decide) (by decide), show ((r : Int) - 0) / 2 = (nx r : Int) by omega]
        simp only [bsome, seqO_nx]
    rw [whileO_succ, c1, bsome, if_pos rfl, c2, seqO_nx]
  intro f
  induction f with
  | zero =>
    intro m r found h hm hne hl
    obtain ⟨m, rfl⟩ : ∃ k, m = k + 2 := ⟨m - 2, by omega⟩
    by_cases c : r = 0
    · subst c
      rw [stop _ _ (hne.resolve_right fun z => z rfl), naf_zero, List.append_nil]
    · rw [step _ _ _ c (by omega), nx_one (by simpa using h), stop _ _ (by simp), naf, if_neg c]
      rfl
  | succ f ih =>
    intro m r found h hm hne hl
    obtain ⟨m, rfl⟩ : ∃ k, m = k + 1 := ⟨m - 1, by omega⟩
    by_cases c : r = 0
    · subst c
      rw [stop _ _ (hne.resolve_right fun z => z rfl), naf_zero, List.append_nil]
    · rw [step _ _ _ c (by omega), ih m (nx r) _ (nx_le h) (by omega) (.inl (by simp)) (by rw [List.length_append, List.length_singleton]; omega), naf.eq_def (f + 1 + 1)]
      simp [c]
theorem lean_ok {n : Nat} (h0 : 0 < n) (h : n ≤ 2 ^ 40) : F_lean_row (n : Int) = some (naf 41 n).reverse := by
  unfold F_lean_row fb_lean_row
  simp only [bsome, seqO_nx]
  rw [lean_loop 40 FUEL n [] h (by unfold FUEL; omega) (.inr (by omega)) (by simp)]
  simp only [seqO_nx, seqO_rt, outF_rt, bsome, List.nil_append]
/-! the rows of shifts -/
def pr : Nat → List Int → List (T2 Int Int)
  | _, [] => []
  | k, d :: ds => if d = 0 then pr (k + 1) ds else ⟨(k : Int), d⟩ :: pr (k + 1) ds
def sh (n : Nat) : List (T2 Int Int) := pr 0 (naf 41 n)
theorem pr_succ : ∀ (ds : List Int) (k : Nat), pr (k + 1) ds = (pr k ds).map fun t => ⟨t.a + 1, t.b⟩
  | [], _ => rfl
  | d :: ds, k => by
    unfold pr
    rw [pr_succ ds (k + 1)]
    split
    · rfl
    · rw [List.map_cons]
      congr 1
theorem pr_filter : ∀ (ds : List Int) (k : Nat), ((((ds.zipIdx k).map fun q => T2.mk (q.2 : Int) q.1).filter fun t => !decide (t.b = 0)).map fun t : T2 Int Int => (⟨t.a, t.b⟩ : T2 Int Int)) = pr k ds
  | [], _ => rfl
  | d :: ds, k => by
    rw [List.zipIdx_cons, List.map_cons, pr]
    by_cases c : d = 0
    · rw [List.filter_cons_of_neg (by simp [c]), if_pos c]
      exact pr_filter ds (k + 1)
    · rw [List.filter_cons_of_pos (by simp [c]), if_neg c, List.map_cons]
      congr 1
      exact pr_filter ds (k + 1)
theorem shifts_of_ok {n : Nat} (h0 : 0 < n) (h : n ≤ 2 ^ 40) : F_shifts_of (n : Int) = some (sh n) := by
  have hl := naf_len 41 n
  unfold F_shifts_of fb_shifts_of
  simp only [bsome]
  rw [lean_ok h0 h]
  simp only [bsome, List.reverse_reverse]
  rw [lNew_eq (by rw [List.length_map, List.length_zipIdx]; omega)]
  simp only [bsome]
  rw [compO_eq (t := fun s : (S_shifts_of × Int) × Int => some (!decide (s.2 = 0))) (f := fun s : (S_shifts_of × Int) × Int => some (T2.mk s.1.2 s.2)) (set := fun t : T2 Int Int => (((⟨(n : Int)⟩ : S_shifts_of), t.a), t.b)) (p := fun t : T2 Int Int => !decide (t.b = 0)) (h := fun t : T2 Int Int => (⟨t.a, t.b⟩ : T2 Int Int)) (fun x _ => rfl) (fun x _ _ => rfl)]
  simp only [bsome, seqO_rt, outF_rt]
  rw [pr_filter]
  rfl
theorem check_ok {n m : Int} (h1 : 1 ≤ n) (h2 : n ≤ m) : F_check_number n m = some () := by
  unfold F_check_number fb_check_number
  simp only [bsome]
  rw [decide_eq_true h1, if_pos rfl, decide_eq_true h2]
  simp only [bsome, Bool.not_true, Bool.false_eq_true, if_false, seqO_nx, outF_nx]
theorem shifts_ok {n : Nat} (h0 : 0 < n) (h : n ≤ 1000000) : F_shifts (n : Int) = some (sh n) := by
  unfold F_shifts fb_shifts
  simp only [bsome]
  rw [check_ok (by omega) (by omega)]
  simp only [bsome, seqO_nx]
  rw [shifts_of_ok h0 (by omega)]
  simp only [bsome, seqO_rt, outF_rt]
/-! what the rows tell -/
def sm : List (T2 Int Int) → Int
  | [] => 0
  | t :: ts => t.b * 2 ^ t.a.toNat + sm ts
theorem sm_naf : ∀ (f r k : Nat), r ≤ 2 ^ f → sm (pr k (naf (f + 1) r)) = 2 ^ k * (r : Int)
  | f, 0, k, _ => by rw [naf_zero]; simp [pr, sm]
  | f, r + 1, k, h => by
    have hd := dg_nx (r + 1)
    rw [naf, if_neg (by omega), pr]
    have rest : sm (pr (k + 1) (naf f (nx (r + 1)))) = 2 ^ (k + 1) * (nx (r + 1) : Int) := by
      cases f with
      | zero =>
        have e : nx (r + 1) = 0 := nx_one (by simpa using h)
        rw [e]
        simp [naf, pr, sm]
      | succ f => exact sm_naf f (nx (r + 1)) (k + 1) (nx_le h)
    split
    · rename_i c
      rw [rest, Int.pow_succ, ← hd, c]
      grind
    · rw [sm, rest, Int.pow_succ, ← hd]
      show dg (r + 1) * 2 ^ (k : Int).toNat + _ = _
      rw [Int.toNat_natCast]
      grind
def Ok (t : T2 Int Int) : Prop := (∃ k : Nat, t.a = (k : Int) ∧ k ≤ 45) ∧ (t.b = 1 ∨ t.b = -1)
theorem pr_ok : ∀ (f r k : Nat), k + f ≤ 46 → ∀ t ∈ pr k (naf f r), Ok t
  | 0, r, k, _, t, ht => absurd ht (by simp [naf, pr])
  | f + 1, r, k, h, t, ht => by
    unfold naf at ht
    split at ht
    · exact absurd ht (by simp [pr])
    · unfold pr at ht
      split at ht
      · exact pr_ok f _ (k + 1) (by omega) t ht
      · rename_i c
        rcases List.mem_cons.mp ht with rfl | ht
        · exact ⟨⟨k, rfl, by omega⟩, (dg_cases r).resolve_left c⟩
        · exact pr_ok f _ (k + 1) (by omega) t ht
theorem sh_ok {n : Nat} : ∀ t ∈ sh n, Ok t := pr_ok 41 n 0 (by decide)
theorem pr_len : ∀ (ds : List Int) (k : Nat), (pr k ds).length ≤ ds.length
  | [], _ => Nat.le_refl _
  | d :: ds, k => by
    unfold pr
    have := pr_len ds (k + 1)
    split
    · rw [List.length_cons]; omega
    · rw [List.length_cons, List.length_cons]; omega
theorem sh_len {n : Nat} : (sh n).length ≤ 41 := Nat.le_trans (pr_len _ _) (naf_len _ _)
def Gap : Int → List (T2 Int Int) → Prop
  | _, [] => True
  | lo, t :: ts => lo ≤ t.a ∧ Gap (t.a + 2) ts
theorem Gap.less {lo l2 : Int} (h : l2 ≤ lo) : ∀ {ts : List (T2 Int Int)}, Gap lo ts → Gap l2 ts
  | [], _ => trivial
  | t :: ts, ⟨h1, h2⟩ => ⟨Int.le_trans h h1, h2⟩
theorem gap_naf : ∀ (f r k : Nat), Gap (k : Int) (pr k (naf f r)) ∧ (r % 2 = 0 → Gap ((k : Int) + 1) (pr k (naf f r)))
  | 0, r, k => ⟨trivial, fun _ => trivial⟩
  | f + 1, r, k => by
    have ih := gap_naf f (nx r) (k + 1)
    unfold naf
    split
    · exact ⟨trivial, fun _ => trivial⟩
    · unfold pr
      split
      · have h1 : Gap ((k : Int) + 1) (pr (k + 1) (naf f (nx r))) := by
          have := ih.1
          rw [show (((k + 1 : Nat)) : Int) = (k : Int) + 1 by push_cast; rfl] at this
          exact this
        exact ⟨h1.less (by omega), fun _ => h1⟩
      · rename_i c
        refine ⟨⟨Int.le_refl _, ?_⟩, fun z => absurd (dg_even z) c⟩
        have := ih.2 (dg_odd c)
        rw [show (((k + 1 : Nat)) : Int) + 1 = (k : Int) + 2 by push_cast; omega] at this
        exact this
theorem gap_at : ∀ {ts : List (T2 Int Int)} {lo : Int} {i : Nat} {x y : T2 Int Int}, Gap lo ts → ts[i]? = some x → ts[i + 1]? = some y → x.a + 2 ≤ y.a
  | [], _, _, _, _, _, h, _ => by cases h
  | t :: ts, lo, 0, x, y, ⟨_, g⟩, hx, hy => by
    cases hx
    cases ts with
    | nil => cases hy
    | cons u us =>
      cases hy
      exact g.1
  | t :: ts, lo, i + 1, x, y, ⟨_, g⟩, hx, hy => gap_at g hx hy
theorem sh_double {n : Nat} (h0 : 0 < n) (h : n ≤ 2 ^ 39) : sh (2 * n) = (sh n).map fun t => ⟨t.a + 1, t.b⟩ := by
  unfold sh
  have e : naf 41 (2 * n) = 0 :: naf 41 n := by
    rw [show (41 : Nat) = 40 + 1 from rfl, naf, if_neg (by omega), dg_even (by omega), show nx (2 * n) = n by unfold nx; rw [if_neg (by omega)]; omega]
    congr 1
    exact (naf_fuel 39 40 n h (by decide)).symm
  rw [e, pr, if_pos rfl, pr_succ]
end LW

set_option Elab.async false
set_option linter.all false
set_option maxRecDepth 100000
set_option exponentiation.threshold 10000
namespace LW
open PL
def tabD : Nat := 7493516311192563360603290499315796953393305020759884435643590637420796221502830966763197544343469261828635421734002836386998338402949846574736000150278715078964686561809929430771714418568515609637816000730430210692823891726897045617647228783174478548145243242557154010963173214414870316631929883715732284262792540765756084287371284818241256742675191122609871057001365890674402929112147590836757846167583119104200029313748334021647045171310619402405868077681089196103577487029227420185060332016697547295535823064326828260678406467155966482798
def D (i : Nat) : Nat := tabD / 8 ^ i % 8
def nbr (i j : Nat) : Bool := (List.range 8).any fun p => (decide (2 ^ p ≤ i) && (D (i - 2 ^ p) == j)) || (decide (i + 2 ^ p < 599) && (D (i + 2 ^ p) == j))
theorem D_tab : ∀ j : Fin 4, ((List.range 599).all fun i => (D i == j.val + 1) == (decide (j.val < D i) && nbr i j.val)) = true := by decide +kernel
theorem D_mid : D 299 = 0 := by decide +kernel
theorem D_zero : ((List.range 599).all fun i => (D i == 0) == (i == 299)) = true := by decide +kernel
theorem D_step {i j : Nat} (hi : i < 599) (hj : j < 4) : D i = j + 1 ↔ j < D i ∧ nbr i j = true := by
  have h := D_tab ⟨j, hj⟩
  have h := List.all_eq_true.mp h i (List.mem_range.mpr hi)
  have h := eq_of_beq h
  dsimp only at h
  constructor
  · intro e
    rw [e] at h
    simp at h
    rw [e]
    exact ⟨by omega, h⟩
  · rintro ⟨a, b⟩
    rw [b, decide_eq_true a] at h
    simpa using h
theorem nbr_iff {i j : Nat} (hi : i < 599) : nbr i j = true ↔ ∃ m < 599, D m = j ∧ ∃ p < 8, i = m + 2 ^ p ∨ i + 2 ^ p = m := by
  unfold nbr
  rw [List.any_eq_true]
  constructor
  · rintro ⟨p, hp, h⟩
    simp only [Bool.or_eq_true, Bool.and_eq_true, decide_eq_true_eq, beq_iff_eq] at h
    have hp := List.mem_range.mp hp
    rcases h with ⟨h1, h2⟩ | ⟨h1, h2⟩
    · exact ⟨i - 2 ^ p, Nat.lt_of_le_of_lt (Nat.sub_le _ _) hi, h2, p, hp, .inl (by omega)⟩
    · exact ⟨i + 2 ^ p, h1, h2, p, hp, .inr rfl⟩
  · rintro ⟨m, hm, hD, p, hp, h⟩
    refine ⟨p, List.mem_range.mpr hp, ?_⟩
    simp only [Bool.or_eq_true, Bool.and_eq_true, decide_eq_true_eq, beq_iff_eq]
    rcases h with h | h
    · exact .inl ⟨by omega, by rw [h, Nat.add_sub_cancel]; exact hD⟩
    · exact .inr ⟨by omega, by rw [h]; exact hD⟩
/-- the numbers told at the turn j -/
def cj (j : Nat) : List Int := ((List.range 599).filter fun i => D i == j).map fun i : Nat => (i : Int) - 299
theorem mem_cj {j : Nat} {k : Int} : k ∈ cj j ↔ ∃ i : Nat, i < 599 ∧ k = (i : Int) - 299 ∧ D i = j := by
  unfold cj
  rw [List.mem_map]
  constructor
  · rintro ⟨i, hi, rfl⟩
    rw [List.mem_filter] at hi
    exact ⟨i, List.mem_range.mp hi.1, rfl, eq_of_beq hi.2⟩
  · rintro ⟨i, h1, rfl, h2⟩
    exact ⟨i, List.mem_filter.mpr ⟨List.mem_range.mpr h1, by simp [h2]⟩, rfl⟩
theorem cj_pw {j : Nat} : (cj j).Pairwise (· < ·) := by
  unfold cj
  rw [List.pairwise_map]
  refine (List.Pairwise.filter _ List.pairwise_lt_range).imp fun h => by omega
theorem cj_len : ∀ j : Fin 4, (cj j.val).length ≤ 250 := by decide +kernel
theorem cj_len2 {j : Nat} : (cj j).length ≤ 599 := by
  unfold cj
  rw [List.length_map]
  exact Nat.le_trans (List.length_filter_le _ _) (by rw [List.length_range]; exact Nat.le_refl _)
def pm (x : Int) (j : Nat) : List Int := (List.range j).flatMap fun p => [x + 2 ^ p, x - 2 ^ p]
theorem pm_succ {x : Int} {j : Nat} : pm x (j + 1) = pm x j ++ [x + 2 ^ j, x - 2 ^ j] := by
  unfold pm
  rw [List.range_succ, List.flatMap_append]
  simp
theorem pm_len {x : Int} : ∀ j : Nat, (pm x j).length = 2 * j
  | 0 => rfl
  | j + 1 => by rw [pm_succ, List.length_append, pm_len j]; simp; omega
theorem mem_pm {x k : Int} : k ∈ pm x 8 ↔ ∃ p < 8, k = x + 2 ^ p ∨ k = x - 2 ^ p := by
  unfold pm
  rw [List.mem_flatMap]
  constructor
  · rintro ⟨p, hp, h⟩
    exact ⟨p, List.mem_range.mp hp, by simpa using h⟩
  · rintro ⟨p, hp, h⟩
    exact ⟨p, List.mem_range.mpr hp, by simpa using h⟩
theorem few1_ok {n x m : Int} {here met later : List Int} (hl : later.length ≤ 5000) :
    lp__law_fewest_1 ⟨n, here, met, m, later, x, 0⟩ = some (.nx ⟨n, here, met, m, later ++ pm x 8, 0, 0⟩) := by
  unfold lp__law_fewest_1
  simp only [bsome]
  rw [rng1_eq (by decide) (by decide)]
  simp only [bsome]
  have key := forO_eq (set := fun (s : S__law_fewest) (t : Int) => { s with v_place := t }) (b := lp__law_fewest_0) (fun j => (⟨n, here, met, m, later ++ pm x j, x, 0⟩ : S__law_fewest)) (rng 0 (8 : Int).toNat) (fun j y hy => by
    have hr : y = (j : Int) ∧ j < 8 := by
      unfold rng at hy
      rw [List.getElem?_map] at hy
      cases hq : (List.range (8 : Int).toNat)[j]? with
      | none => rw [hq] at hy; cases hy
      | some q =>
        rw [hq] at hy
        obtain ⟨h2, h3⟩ := List.getElem?_eq_some_iff.mp hq
        rw [List.getElem_range] at h3
        cases hy
        rw [List.length_range] at h2
        subst h3
        exact ⟨Int.zero_add _, h2⟩
    obtain ⟨rfl, hj⟩ := hr
    unfold lp__law_fewest_0
    simp only [bsome]
    rw [raised_ok (by omega)]
    simp only [bsome]
    rw [lCat_eq (by rw [List.length_append, pm_len]; simp; omega)]
    simp only [bsome, seqO_nx]
    rw [pm_succ, List.append_assoc])
  rw [show (rng 0 (8 : Int).toNat).length = 8 from rfl, show pm x 0 = [] from rfl, List.append_nil] at key
  rw [key]
  simp only [seqO_nx]
def MetS (j : Nat) (met : List Int) : Prop := (∀ k : Int, k ∈ met ↔ ∃ i : Nat, i < 599 ∧ k = (i : Int) - 299 ∧ D i ≤ j) ∧ met.length ≤ 600 * (j + 1)
theorem flat_len (here : List Int) : (here.flatMap fun x => pm x 8).length = 16 * here.length := by
  induction here with
  | nil => rfl
  | cons x xs ih => rw [List.flatMap_cons, List.length_append, ih, pm_len, List.length_cons]; omega
theorem few2_ok {n : Int} {j : Nat} {met : List Int} (hj : j < 4) (hm : MetS j met) :
    lp__law_fewest_2 ⟨n, cj j, met, (j : Int), [], 0, 0⟩ = some (.nx ⟨n, cj (j + 1), met ++ cj (j + 1), ((j + 1 : Nat) : Int), [], 0, 0⟩) ∧ MetS (j + 1) (met ++ cj (j + 1)) := by
  have hlen := cj_len ⟨j, hj⟩
  dsimp only at hlen
  have hl2 := cj_len2 (j := j + 1)
  have hm2 := hm.2
  have hM : MetS (j + 1) (met ++ cj (j + 1)) := by
    refine ⟨fun k => ?_, by rw [List.length_append]; omega⟩
    rw [List.mem_append, hm.1, mem_cj]
    constructor
    · rintro (⟨i, h1, h2, h3⟩ | ⟨i, h1, h2, h3⟩)
      · exact ⟨i, h1, h2, by omega⟩
      · exact ⟨i, h1, h2, by omega⟩
    · rintro ⟨i, h1, h2, h3⟩
      rcases Nat.lt_or_ge j (D i) with q | q
      · exact .inr ⟨i, h1, h2, by omega⟩
      · exact .inl ⟨i, h1, h2, q⟩
  refine ⟨?_, hM⟩
  unfold lp__law_fewest_2
  simp only [bsome, seqO_nx]
  have key := forO_eq (set := fun (s : S__law_fewest) (t : Int) => { s with v_one := t }) (b := lp__law_fewest_1) (fun i => (⟨n, cj j, met, (j : Int), ((cj j).take i).flatMap fun x => pm x 8, 0, 0⟩ : S__law_fewest)) (cj j) (fun i x hx => by
    have hl : (((cj j).take i).flatMap fun x => pm x 8).length ≤ 5000 := by
      rw [flat_len, List.length_take]
      omega
    show lp__law_fewest_1 ⟨n, cj j, met, (j : Int), _, x, 0⟩ = _
    rw [few1_ok hl, List.take_succ, hx, List.flatMap_append]
    simp)
  rw [List.take_length, List.take_zero, List.flatMap_nil] at key
  rw [key]
  simp only [seqO_nx]
  have hs : srtSet ((cj j).flatMap fun x => pm x 8) = some (srtS ((cj j).flatMap fun x => pm x 8)) := if_pos (by rw [flat_len]; omega)
  rw [hs]
  simp only [bsome]
  have e2 : (srtS ((cj j).flatMap fun x => pm x 8)).filter (fun k => !decide (k ∈ met) && decide ((k.natAbs : Int) < 300)) = cj (j + 1) := by
    refine lt_uniq (List.Pairwise.filter _ pw_srtS) cj_pw fun k => ?_
    rw [List.mem_filter, mem_srtS, List.mem_flatMap, mem_cj, Bool.and_eq_true, decide_eq_true_eq, Bool.not_eq_true', decide_eq_false_iff_not, hm.1]
    constructor
    · rintro ⟨⟨x, hx, hk⟩, hn, ha⟩
      obtain ⟨a, ha1, rfl, ha2⟩ := mem_cj.mp hx
      obtain ⟨p, hp, hk⟩ := mem_pm.mp hk
      obtain ⟨i, rfl, hi⟩ : ∃ i : Nat, k = (i : Int) - 299 ∧ i < 599 := ⟨(k + 299).toNat, by omega, by omega⟩
      refine ⟨i, hi, rfl, (D_step hi hj).mpr ⟨?_, (nbr_iff hi).mpr ⟨a, ha1, ha2, p, hp, ?_⟩⟩⟩
      · rcases Nat.lt_or_ge j (D i) with q | q
        · exact q
        · exact absurd ⟨i, hi, rfl, q⟩ hn
      · have e : ((2 ^ p : Nat) : Int) = (2 : Int) ^ p := by push_cast; rfl
        rcases hk with hk | hk
        · left; omega
        · right; omega
    · rintro ⟨i, hi, rfl, hD⟩
      obtain ⟨h1, h2⟩ := (D_step hi hj).mp hD
      obtain ⟨a, ha1, ha2, p, hp, hk⟩ := (nbr_iff hi).mp h2
      refine ⟨⟨(a : Int) - 299, mem_cj.mpr ⟨a, ha1, rfl, ha2⟩, mem_pm.mpr ⟨p, hp, ?_⟩⟩, ?_, by omega⟩
      · have e : ((2 ^ p : Nat) : Int) = (2 : Int) ^ p := by push_cast; rfl
        rcases hk with hk | hk
        · left; omega
        · right; omega
      · rintro ⟨m, _, hm2, hm3⟩
        have : m = i := by omega
        subst this
        omega
  have hsl : (srtS ((cj j).flatMap fun x => pm x 8)).length ≤ 16777216 := by
    have : ∀ l : List Int, (srtS l).length ≤ l.length := by
      have ins : ∀ (x : Int) (l : List Int), (insS x l).length ≤ l.length + 1 := fun x l => by
        induction l with
        | nil => exact Nat.le_refl _
        | cons y ys ih =>
          unfold insS
          split
          · simp
          · split
            · simp
            · rw [List.length_cons, List.length_cons]; omega
      intro l
      induction l with
      | nil => exact Nat.le_refl _
      | cons x xs ih => rw [srtS]; have := ins x (srtS xs); rw [List.length_cons]; omega
    have := this ((cj j).flatMap fun x => pm x 8)
    rw [flat_len] at this
    omega
  rw [lNew_eq hsl]
  simp only [bsome]
  have hc := compO_eq (t := fun s : S__law_fewest × Int => (dNin s.2 s.1.v_met).bind fun x671 => if x671 = true then some (decide ((s.2.natAbs : Int) < 300)) else some false) (f := fun s : S__law_fewest × Int => some s.2) (set := fun t : Int => ((⟨n, cj j, met, (j : Int), (cj j).flatMap fun x => pm x 8, 0, 0⟩ : S__law_fewest), t)) (p := fun k : Int => !decide (k ∈ met) && decide ((k.natAbs : Int) < 300)) (h := fun k : Int => k) (xs := srtS ((cj j).flatMap fun x => pm x 8)) (fun x _ => by
    show ((dNin x met).bind fun x671 => if x671 = true then some (decide ((x.natAbs : Int) < 300)) else some false) = _
    rw [dNin_int, bsome]
    cases decide (x ∈ met) <;> rfl) (fun x _ _ => rfl)
  rw [hc, e2, List.map_id']
  simp only [bsome, seqO_nx]
  rw [lCat_eq (by omega)]
  simp only [bsome, seqO_nx]
  push_cast
  rfl
theorem fewest_ok {n : Nat} (hn : n ≤ 100) (hd : D (n + 299) ≤ 4) : F__law_fewest (n : Int) = some ((D (n + 299) : Nat) : Int) := by
  unfold F__law_fewest fb__law_fewest
  simp only [bsome, seqO_nx]
  have c0 : cj 0 = [0] := by decide +kernel
  have hcc : ∀ (j : Nat) (met : List Int), lc__law_fewest_3 ⟨(n : Int), cj j, met, (j : Int), [], 0, 0⟩ = some (!decide (D (n + 299) = j)) := fun j met => by
    unfold lc__law_fewest_3
    simp only [bsome]
    rw [dNin_int]
    congr 2
    rw [decide_eq_decide, mem_cj]
    constructor
    · rintro ⟨i, h1, h2, h3⟩
      have : i = n + 299 := by omega
      rw [← this]; exact h3
    · intro h
      exact ⟨n + 299, by omega, by omega, h⟩
  have key := whileO_all (c := lc__law_fewest_3) (b := lp__law_fewest_2) (fun g => ∃ (j : Nat) (met : List Int), g = ⟨(n : Int), cj j, met, (j : Int), [], 0, 0⟩ ∧ j ≤ D (n + 299) ∧ MetS j met) (fun g => D (n + 299) - g.v_many.toNat) (fun g hg => by
    obtain ⟨j, met, rfl, h1, h2⟩ := hg
    rw [hcc]
    by_cases c : D (n + 299) = j
    · left
      rw [decide_eq_true c]
      rfl
    · right
      rw [decide_eq_false c]
      obtain ⟨e, hM⟩ := few2_ok (n := (n : Int)) (j := j) (by omega) h2
      refine ⟨rfl, _, e, ⟨j + 1, _, rfl, by omega, hM⟩, ?_⟩
      dsimp only
      omega) FUEL ⟨(n : Int), [0], [0], 0, [], 0, 0⟩ ⟨0, [0], by rw [c0]; rfl, Nat.zero_le _, fun k => by
        constructor
        · intro h
          have : k = 0 := by simpa using h
          exact ⟨299, by decide, by omega, by rw [D_mid]; exact Nat.le_refl _⟩
        · rintro ⟨i, h1, h2, h3⟩
          have := List.all_eq_true.mp D_zero i (List.mem_range.mpr h1)
          have e0 : D i = 0 := by omega
          rw [e0] at this
          have : i = 299 := by simpa using this
          subst this
          simp [h2], by decide⟩ (by unfold FUEL; dsimp only; omega)
  obtain ⟨g, e, ⟨j, met, rfl, h1, h2⟩, ec⟩ := key
  rw [hcc] at ec
  have hj : D (n + 299) = j := by
    by_cases c : D (n + 299) = j
    · exact c
    · rw [decide_eq_false c] at ec
      cases ec
  rw [e, hj]
  simp only [seqO_nx, seqO_rt, outF_rt]
theorem D_sh : ∀ n : Fin 101, 1 ≤ n.val → D (n.val + 299) = (sh n.val).length ∧ D (n.val + 299) ≤ 4 := by decide +kernel
theorem fewest_sh {n : Nat} (h0 : 1 ≤ n) (hn : n ≤ 100) : F__law_fewest (n : Int) = some ((sh n).length : Int) := by
  obtain ⟨h1, h2⟩ := D_sh ⟨n, by omega⟩ h0
  rw [fewest_ok hn h2]
  exact congrArg some (by dsimp only at h1; rw [h1])
/-! the least steps, to forty -/
def lst : List Nat := [0, 0, 1, 2, 2, 3, 3, 4, 3, 4, 4, 5, 4, 5, 5, 5, 4, 5, 5, 6, 5, 6, 6, 6, 5, 6, 6, 6, 6, 7, 6, 7, 5, 6, 6, 7, 6, 7, 7, 7, 6]
theorem first_tab : ∀ n : Fin 41, 1 ≤ n.val → ((F_first_of ((n.val : Nat) : Int)).bind fun x => x.map fun l => l.length) = some (lst.getD n.val 0 + 1) := by decide +kernel
end LW

set_option Elab.async false
set_option linter.all false
set_option maxRecDepth 100000
set_option exponentiation.threshold 10000
namespace LW
open PL
theorem sh_nat {n : Nat} {t : T2 Int Int} (h : t ∈ sh n) : ∃ k : Nat, t.a = (k : Int) ∧ k ≤ 45 ∧ (t.b = 1 ∨ t.b = -1) := by
  obtain ⟨⟨k, h1, h2⟩, h3⟩ := sh_ok t h
  exact ⟨k, h1, h2, h3⟩
def rowsF (n : Nat) (other : Int) : List Int := (sh n).map fun t => t.b * 2 ^ t.a.toNat * other
theorem by_shifts_ok {n : Nat} {other : Int} (h0 : 0 < n) (h : n ≤ 1000000) (h1 : -1000000 ≤ other) (h2 : other ≤ 1000000) : F_by_shifts (n : Int) other = some (rowsF n other) := by
  have hl := sh_len (n := n)
  unfold F_by_shifts fb_by_shifts
  simp only [bsome]
  rw [check_ok (by omega) (by omega)]
  simp only [bsome, seqO_nx]
  rw [shifts_of_ok h0 (by omega)]
  simp only [bsome]
  rw [lNew_eq (by omega)]
  simp only [bsome]
  have hc := compO_all (t := fun s : (S_by_shifts × Int) × Int => some true) (f := fun s : (S_by_shifts × Int) × Int => ((iMul s.2 s.1.1.v_other).bind fun x65 => some (x65, (s.1.2, ()))).bind fun x69 => F_doubled x69.1 x69.2.1) (set := fun t : T2 Int Int => (((⟨(n : Int), other⟩ : S_by_shifts), t.a), t.b)) (h := fun t : T2 Int Int => t.b * 2 ^ t.a.toNat * other) (xs := sh n) (fun x _ => rfl) (fun x hx => by
    obtain ⟨k, e1, e2, e3⟩ := sh_nat hx
    show ((iMul x.b other).bind fun x65 => some (x65, (x.a, ()))).bind (fun x69 => F_doubled x69.1 x69.2.1) = _
    rw [iMul_sm ⟨by omega, by omega⟩ ⟨by omega, by omega⟩]
    simp only [bsome]
    have hb : -1000000 ≤ x.b * other ∧ x.b * other ≤ 1000000 := by
      rcases e3 with e | e
      · rw [e]; omega
      · rw [e]; omega
    rw [e1, doubled_ok (by omega) (by omega) (by omega), Int.toNat_natCast]
    congr 1
    grind)
  simp only [bsome, bassoc] at hc ⊢
  rw [hc]
  simp only [bsome, seqO_rt, outF_rt]
  rfl
theorem sm_sum : ∀ (L : List (T2 Int Int)), (L.map fun t => t.b * 2 ^ t.a.toNat).sum = sm L
  | [] => rfl
  | t :: ts => by rw [List.map_cons, List.sum_cons, sm_sum ts]; rfl
theorem rows_sum : ∀ (L : List (T2 Int Int)) (o : Int), (L.map fun t => t.b * 2 ^ t.a.toNat * o).sum = sm L * o
  | [], o => by simp [sm]
  | t :: ts, o => by rw [List.map_cons, List.sum_cons, rows_sum ts, sm, Int.add_mul]
theorem sm_sh {n : Nat} (h : n ≤ 2 ^ 40) : sm (sh n) = n := by
  unfold sh
  rw [sm_naf 40 n 0 h]
  simp
theorem pw_bd {k : Nat} (h : k ≤ 45) : 0 < (2 : Int) ^ k ∧ (2 : Int) ^ k ≤ 2 ^ 45 := ⟨two_pow_pos, two_pow_lt h⟩
theorem rows_sh {n : Nat} {o : Int} (h1 : -1000000 ≤ o) (h2 : o ≤ 1000000) : ∀ x ∈ rowsF n o, shI x := fun x hx => by
  obtain ⟨t, ht, rfl⟩ := List.mem_map.mp hx
  obtain ⟨k, e1, e2, e3⟩ := sh_nat ht
  obtain ⟨b1, b2⟩ := pw_bd e2
  have h3 : (2 : Int) ^ k * o ≤ 2 ^ 45 * 1000000 := Int.le_trans (Int.mul_le_mul_of_nonneg_left h2 (Int.le_of_lt b1)) (Int.mul_le_mul_of_nonneg_right b2 (by decide))
  have h4 : (2 : Int) ^ k * (-o) ≤ 2 ^ 45 * 1000000 := Int.le_trans (Int.mul_le_mul_of_nonneg_left (show -o ≤ 1000000 by omega) (Int.le_of_lt b1)) (Int.mul_le_mul_of_nonneg_right b2 (by decide))
  rw [Int.mul_neg] at h4
  have e4 : t.b * 2 ^ t.a.toNat * o = 2 ^ k * o ∨ t.b * 2 ^ t.a.toNat * o = -(2 ^ k * o) := by
    rw [e1, Int.toNat_natCast]
    rcases e3 with e | e
    · left; rw [e]; grind
    · right; rw [e]; grind
  rcases e4 with e | e
  · rw [e]; exact shI_of (by omega) (by omega)
  · rw [e]; exact shI_of (by omega) (by omega)
theorem pairs_sh {n : Nat} : ∀ x ∈ sh n, shI x.a ∧ shI x.b := fun x hx => by
  obtain ⟨k, e1, e2, e3⟩ := sh_nat hx
  exact ⟨shI_of (by omega) (by omega), shI_of (by omega) (by omega)⟩
theorem rShow_it {i : Int} {t : Tx} (h : shI i) (ht : t.cs.length ≤ 100) (hc : ∀ c ∈ t.cs, c < 1000) : ∃ r, rShow (T2.mk i t) = some r := by
  refine ⟨_, if_pos ⟨?_, rfl, ?_, by show 1 ≤ 32; omega⟩⟩
  · show (decide (i.natAbs.log2 < 1920) && (true && true)) = true
    rw [decide_eq_true h]
    rfl
  · have := PySem.PyData.shown_le_bulk 2000 (by decide) (Enc.enc (T2.mk i t)) (by
      show ((PySem.PyData.int i).leavesShort 2000 && ((PySem.PyData.str ⟨t.cs.toArray⟩).leavesShort 2000 && true)) = true
      rw [short_int h, Bool.true_and, Bool.and_true]
      show (t.cs.toArray.toList.all fun c => decide (c < 16 ^ 8)) = true
      rw [List.all_eq_true]
      intro c hcm
      exact decide_eq_true (Nat.lt_trans (hc c (by simpa using hcm)) (by decide)))
    have hb : (Enc.enc (T2.mk i t)).bulk = t.cs.length + 2 := by
      show (0 + 1 + (t.cs.toArray.size + 1 + 0)) = _
      simp
      omega
    rw [hb] at this
    rw [sizeLine_val]
    have h6 : 2002 * (t.cs.length + 2) ≤ 2002 * 102 := Nat.mul_le_mul_left _ (by omega)
    omega
theorem cut_last {τ : Type} {L : List τ} {x : τ} : cut (L ++ [x]) none (some (-1)) = L := by
  have h1 : HT.sIx (L ++ [x]).length 0 none = 0 := rfl
  have h2 : HT.sIx (L ++ [x]).length (L ++ [x]).length (some (-1)) = L.length := by
    show (if (-1 : Int) < 0 then ((-1 : Int) + ((L ++ [x]).length : Int)).toNat else min (-1 : Int).toNat (L ++ [x]).length) = _
    rw [if_pos (by decide), List.length_append, List.length_singleton]
    omega
  unfold cut
  rw [h1, h2, List.drop_zero, Nat.sub_zero, List.take_left]
def oneF (n : Nat) (add : Int) : Int := add * (lst.getD n 0 : Nat)
def twoF (n : Nat) (add shift : Int) : Int := add * (((sh n).length : Int) - 1) + shift * (((sh n).filter fun t => decide (t.a > 0)).length : Int)
theorem first_ok {n : Nat} (h0 : 1 ≤ n) (hn : n ≤ 40) : ∃ l : List Int, F_first_of (n : Int) = some (some l) ∧ l.length = lst.getD n 0 + 1 := by
  have h := first_tab ⟨n, by omega⟩ h0
  dsimp only at h
  cases e : F_first_of (n : Int) with
  | none => rw [e] at h; cases h
  | some x =>
    rw [e] at h
    cases x with
    | none => cases h
    | some l => exact ⟨l, rfl, by simpa using h⟩
theorem least_ok {n : Nat} (h0 : 1 ≤ n) (hn : n ≤ 40) : F_least_steps (n : Int) = some ((lst.getD n 0 : Nat) : Int) := by
  obtain ⟨l, e, hl⟩ := first_ok h0 hn
  unfold F_least_steps fb_least_steps
  simp only [bsome]
  rw [check_ok (by omega) (by omega)]
  simp only [bsome, seqO_nx]
  rw [e]
  simp only [bsome, seqO_rt, outF_rt]
  rw [hl]
  congr 1
  push_cast
  omega
theorem lst_le : ∀ n : Fin 41, lst.getD n.val 0 ≤ 7 := by decide
theorem filt_comp {L : List (T2 Int Int)} {σ : Type} (s : σ) : compO (fun s : (σ × Int) × Int => some (decide (s.1.2 > 0))) (fun s : (σ × Int) × Int => some s.1.2) (fun t : T2 Int Int => ((s, t.a), t.b)) L = some ((L.filter fun t => decide (t.a > 0)).map fun t => t.a) :=
  compO_eq (t := fun s : (σ × Int) × Int => some (decide (s.1.2 > 0))) (f := fun s : (σ × Int) × Int => some s.1.2) (set := fun t : T2 Int Int => ((s, t.a), t.b)) (p := fun t : T2 Int Int => decide (t.a > 0)) (h := fun t : T2 Int Int => t.a) (fun x _ => rfl) (fun x _ _ => rfl)
theorem two_bits {n : Nat} {add shift : Int} (ha : 0 ≤ add ∧ add ≤ 100) (hs : 0 ≤ shift ∧ shift ≤ 100) : iMul add (((sh n).length : Int) - 1) = some (add * (((sh n).length : Int) - 1)) ∧ iMul shift (((sh n).filter fun t => decide (t.a > 0)).length : Int) = some (shift * (((sh n).filter fun t => decide (t.a > 0)).length : Int)) := by
  have hl := sh_len (n := n)
  have hf : ((sh n).filter fun t => decide (t.a > 0)).length ≤ (sh n).length := List.length_filter_le _ _
  exact ⟨iMul_sm ⟨by omega, by omega⟩ ⟨by omega, by omega⟩, iMul_sm ⟨by omega, by omega⟩ ⟨by omega, by omega⟩⟩
theorem cheapest_ok {n : Nat} {add shift : Int} (h0 : 1 ≤ n) (hn : n ≤ 40) (ha : 0 ≤ add ∧ add ≤ 100) (hs : 0 ≤ shift ∧ shift ≤ 100) :
    F_cheapest (n : Int) add shift = some (if oneF n add ≤ twoF n add shift then ⟨oneF n add, ⟨[99, 104, 97, 105, 110]⟩⟩ else ⟨twoF n add shift, ⟨[115, 104, 105, 102, 116, 115]⟩⟩) := by
  obtain ⟨l, e, hl⟩ := first_ok h0 hn
  have hlst := lst_le ⟨n, by omega⟩
  dsimp only at hlst
  have hsl := sh_len (n := n)
  obtain ⟨m1, m2⟩ := two_bits (n := n) ha hs
  unfold F_cheapest fb_cheapest
  simp only [bsome, bassoc]
  rw [check_ok (by omega) (by omega)]
  simp only [bsome, seqO_nx]
  rw [forO_same (g := (⟨(n : Int), add, shift, 0, 0, [], 0⟩ : S_cheapest)) fun x hx => by
    have hx : 0 ≤ x ∧ x ≤ 100 := by
      rcases List.mem_cons.mp hx with rfl | hx
      · exact ha
      · rcases List.mem_cons.mp hx with rfl | hx
        · exact hs
        · cases hx
    unfold lp_cheapest_0
    simp only [bsome]
    rw [decide_eq_true hx.1, if_pos rfl, decide_eq_true hx.2]
    simp only [bsome, Bool.not_true, Bool.false_eq_true, if_false, seqO_nx]]
  simp only [seqO_nx]
  rw [e]
  simp only [bsome]
  rw [hl, show (((lst.getD n 0 + 1 : Nat)) : Int) - 1 = (lst.getD n 0 : Nat) by push_cast; omega, iMul_sm ⟨by omega, by omega⟩ ⟨by omega, by omega⟩]
  simp only [bsome, seqO_nx]
  rw [shifts_of_ok h0 (by omega)]
  simp only [bsome, seqO_nx]
  rw [m1]
  simp only [bsome]
  rw [lNew_eq (by omega)]
  simp only [bsome]
  rw [filt_comp]
  simp only [bsome, List.length_map]
  rw [m2]
  simp only [bsome, seqO_nx]
  have u1 : add * ((lst.getD n 0 : Nat) : Int) = oneF n add := rfl
  have u2 : add * (((sh n).length : Int) - 1) + shift * (((sh n).filter fun t => decide (t.a > 0)).length : Int) = twoF n add shift := rfl
  rw [u1, u2]
  by_cases c : oneF n add ≤ twoF n add shift
  · rw [decide_eq_true c, if_pos rfl, if_pos c]
    simp only [bsome, seqO_rt, outF_rt]
  · rw [decide_eq_false c, if_neg (by decide), if_neg c]
    simp only [bsome, seqO_rt, outF_rt]
end LW

set_option Elab.async false
set_option linter.all false
set_option maxRecDepth 100000
set_option exponentiation.threshold 10000
namespace LW
open PL
theorem pick2 {r a b : Int} (h : 0 ≤ r ∧ r < 2) : ∃ c : Int, L2.atI [a, b] r = some c ∧ (c = a ∨ c = b) := by
  rcases (show r = 0 ∨ r = 1 by omega) with rfl | rfl
  · exact ⟨a, rfl, .inl rfl⟩
  · exact ⟨b, rfl, .inr rfl⟩
theorem dNe_int (x y : List Int) : dNe x y = some (!decide (x = y)) := by
  have h : ∀ l : List Int, EqT.ok l = true := fun l => by
    show l.all (fun _ => true) = true
    simp
  exact if_pos ⟨h _, h _⟩
theorem dNe_e2 (x y : List (E2 Int Int)) : dNe x y = some (!decide (x = y)) := by
  have h : ∀ l : List (E2 Int Int), EqT.ok l = true := fun l => by
    show l.all EqT.ok = true
    rw [List.all_eq_true]
    intro t _
    cases t with
    | e => rfl
    | v t => rfl
  exact if_pos ⟨h _, h _⟩
theorem map_ok {σ τ : Type} (s : σ) {L : List (T2 Int Int)} {g : (σ × Int) × Int → Option τ} {h : T2 Int Int → τ} (e : ∀ t ∈ L, g ((s, t.a), t.b) = some (h t)) :
    compO (fun s : (σ × Int) × Int => some true) g (fun t : T2 Int Int => ((s, t.a), t.b)) L = some (L.map h) :=
  compO_all (t := fun s : (σ × Int) × Int => some true) (f := g) (set := fun t : T2 Int Int => ((s, t.a), t.b)) (h := h) (fun x _ => rfl) e
def plc (n : Nat) : List Int := (sh n).map fun t => t.a
theorem raised_mul {n : Nat} {t : T2 Int Int} (ht : t ∈ sh n) : ((F__law_raised t.a).bind fun x => iMul t.b x) = some (t.b * 2 ^ t.a.toNat) := by
  obtain ⟨k, e1, e2, e3⟩ := sh_nat ht
  obtain ⟨b1, b2⟩ := pw_bd e2
  rw [e1, raised_ok (by omega), bsome, iMul_sm ⟨by omega, by omega⟩ ⟨by omega, by omega⟩, Int.toNat_natCast]
theorem rng_len58 {lo : Int} {n : Nat} : (rng lo n).length = n := by
  unfold rng
  rw [List.length_map, List.length_range]
theorem gaps_none {n : Nat} {s : S_law} (h : s.v_places = plc n) : compO (fun s : S_law × Int => (L2.atI s.1.v_places s.2).bind fun a => (L2.atI s.1.v_places (s.2 - 1)).bind fun x1275 => some (decide (a - x1275 < 2))) (fun s : S_law × Int => some s.2) (fun t : Int => (s, t)) (rng 1 ((plc n).length - 1)) = some [] := by
  have hc := compO_eq (t := fun s : S_law × Int => (L2.atI s.1.v_places s.2).bind fun a => (L2.atI s.1.v_places (s.2 - 1)).bind fun x1275 => some (decide (a - x1275 < 2))) (f := fun s : S_law × Int => some s.2) (set := fun t : Int => (s, t)) (p := fun _ => false) (h := fun t : Int => t) (xs := rng 1 ((plc n).length - 1)) (fun x hx => by
    have hr := rng_mem hx
    obtain ⟨i, rfl⟩ : ∃ i : Nat, x = ((i + 1 : Nat) : Int) := ⟨(x - 1).toNat, by omega⟩
    have hi : i + 1 < (plc n).length := by omega
    have hl : (plc n).length = (sh n).length := by unfold plc; rw [List.length_map]
    show ((L2.atI s.v_places ((i + 1 : Nat) : Int)).bind fun a => (L2.atI s.v_places (((i + 1 : Nat) : Int) - 1)).bind fun x1275 => some (decide (a - x1275 < 2))) = _
    have g := gap_at (gap_naf 41 n 0).1 (List.getElem?_eq_getElem (show i < (sh n).length by omega)) (List.getElem?_eq_getElem (show i + 1 < (sh n).length by omega))
    have a1 : (plc n)[i + 1]? = some ((sh n)[i + 1]'(by omega)).a := by
      unfold plc
      rw [List.getElem?_map, List.getElem?_eq_getElem (show i + 1 < (sh n).length by omega)]
      rfl
    have a2 : (plc n)[i]? = some ((sh n)[i]'(by omega)).a := by
      unfold plc
      rw [List.getElem?_map, List.getElem?_eq_getElem (show i < (sh n).length by omega)]
      rfl
    rw [h, show (((i + 1 : Nat) : Int) - 1) = ((i : Nat) : Int) by push_cast; omega, L2.atI_nat a1, L2.atI_nat a2]
    simp only [bsome]
    rw [decide_eq_false]
    intro z
    have g2 : ((sh n)[i]'(by omega)).a + 2 ≤ ((sh n)[i + 1]'(by omega)).a := g
    omega) (fun x _ z => by cases z)
  rw [hc]
  congr 1
  rw [List.filter_eq_nil_iff.mpr (by simp)]
  rfl
theorem body_ok {ns l : List Int} {turn : Int} (hbd : BdD l) (hl : l.length ≤ 3780) (h0 : 0 ≤ turn) (h1 : turn < 4) :
    lp_law_0 ⟨ns, l, turn, 0, 0, [], [], [], 0, 0, 0, [], 0, 0, ⟨0, ⟨[]⟩⟩⟩ = some (.nx ⟨ns, l, 0, 0, 0, [], [], [], 0, 0, 0, [], 0, 0, ⟨0, ⟨[]⟩⟩⟩) := by
  obtain ⟨r1, e1, p1, q1⟩ := mix_ok hbd hl (k := 4 + turn) (m := 2) (by omega) (by omega) (by decide)
  obtain ⟨c1, ec1, d1⟩ := pick2 (a := 100) (b := 60000) ⟨p1, q1⟩
  obtain ⟨r2, e2, p2, q2⟩ := mix_ok hbd hl (k := turn) (m := c1) (by omega) (by omega) (by omega)
  obtain ⟨r3, e3, p3, q3⟩ := mix_ok hbd hl (k := 8 + turn) (m := 60000) (by omega) (by omega) (by decide)
  obtain ⟨r4, e4, p4, q4⟩ := mix_ok hbd hl (k := 12 + turn) (m := 2) (by omega) (by omega) (by decide)
  obtain ⟨c4, ec4, d4⟩ := pick2 (a := 1) (b := 30) ⟨p4, q4⟩
  obtain ⟨r5, e5, p5, q5⟩ := mix_ok hbd hl (k := 16 + turn) (m := 40) (by omega) (by omega) (by decide)
  obtain ⟨r6, e6, p6, q6⟩ := mix_ok hbd hl (k := 20 + turn) (m := 101) (by omega) (by omega) (by decide)
  obtain ⟨r7, e7, p7, q7⟩ := mix_ok hbd hl (k := 28 + turn) (m := 2) (by omega) (by omega) (by decide)
  obtain ⟨c7, ec7, d7⟩ := pick2 (a := 101) (b := 10) ⟨p7, q7⟩
  obtain ⟨r8, e8, p8, q8⟩ := mix_ok hbd hl (k := 24 + turn) (m := c7) (by omega) (by omega) (by omega)
  obtain ⟨n, hn, hn0, hn1⟩ : ∃ n : Nat, 1 + r2 = (n : Int) ∧ 0 < n ∧ n ≤ 60000 := ⟨(1 + r2).toNat, by omega, by omega, by omega⟩
  obtain ⟨m, hm, hm0, hm1⟩ : ∃ m : Nat, 1 + r5 = (m : Int) ∧ 1 ≤ m ∧ m ≤ 40 := ⟨(1 + r5).toNat, by omega, by omega, by omega⟩
  have hsl := sh_len (n := n)
  have hsm := sh_len (n := m)
  unfold lp_law_0
  simp only [bsome, bassoc]
  rw [e1]
  simp only [bsome]
  rw [ec1]
  simp only [bsome]
  rw [e2]
  simp only [bsome, seqO_nx]
  rw [e3]
  simp only [bsome]
  rw [e4]
  simp only [bsome]
  rw [ec4]
  simp only [bsome]
  have ho : ∃ o : Int, iMul (r3 - 30000) c4 = some o ∧ -1000000 ≤ o ∧ o ≤ 1000000 := by
    refine ⟨_, iMul_sm ⟨by omega, by omega⟩ ⟨by omega, by omega⟩, ?_, ?_⟩
    · rcases d4 with e | e <;> rw [e] <;> omega
    · rcases d4 with e | e <;> rw [e] <;> omega
  obtain ⟨o, eo, o1, o2⟩ := ho
  rw [eo]
  simp only [bsome, seqO_nx]
  rw [hn, shifts_ok hn0 (by omega)]
  simp only [bsome, seqO_nx]
  rw [unE_map]
  simp only [bsome]
  rw [lNew_eq (show (sh n).length ≤ 16777216 by omega)]
  simp only [bsome]
  rw [map_ok (L := sh n) (h := fun t : T2 Int Int => t.a) _ (fun t _ => rfl)]
  simp only [bsome, seqO_nx]
  rw [unE_map]
  simp only [bsome]
  rw [lNew_eq (show (sh n).length ≤ 16777216 by omega)]
  simp only [bsome]
  rw [map_ok (L := sh n) (g := fun s : (S_law × Int) × Int => (F__law_raised s.1.2).bind fun x1186 => iMul s.2 x1186) (h := fun t : T2 Int Int => t.b * 2 ^ t.a.toNat) _ (fun t ht => raised_mul ht)]
  simp only [bsome]
  rw [sm_sum, sm_sh (by omega)]
  simp only [decide_true, Bool.not_true, Bool.false_eq_true, if_false]
  rw [compO_eq (t := fun s : (S_law × Int) × Int => dNin s.2 [1, -1]) (f := fun s : (S_law × Int) × Int => some s.2) (set := fun t : T2 Int Int => (((_ : S_law), t.a), t.b)) (p := fun _ => false) (h := fun t : T2 Int Int => t.b) (xs := sh n) (fun x hx => by
    obtain ⟨k, _, _, e⟩ := sh_nat hx
    show dNin x.b [1, -1] = some false
    rw [dNin_int]
    rcases e with e | e <;> rw [e] <;> rfl) (fun x _ z => by cases z)]
  rw [List.filter_eq_nil_iff.mpr (by simp)]
  simp only [bsome, List.map_nil]
  rw [dNe_int]
  simp only [bsome, decide_true, Bool.not_true, Bool.false_eq_true, if_false, seqO_nx]
  rw [rng2_eq (by decide) (by rw [List.length_map]; omega)]
  simp only [bsome]
  rw [show (((List.map (fun t : T2 Int Int => t.a) (sh n)).length : Int) - 1).toNat = (plc n).length - 1 by unfold plc; omega]
  rw [lNew_eq (by rw [rng_len58]; unfold plc; rw [List.length_map]; omega)]
  simp only [bsome]
  rw [gaps_none (n := n) rfl]
  simp only [bsome]
  rw [dNe_int]
  simp only [bsome, decide_true, Bool.not_true, Bool.false_eq_true, if_false]
  have k1 : (if decide ((n : Int) ≤ 100) = true then (F__law_fewest (n : Int)).bind fun x1289 => some (!decide (((List.map (fun t : T2 Int Int => E2.v t) (sh n)).length : Int) = x1289)) else some false) = some false := by
    by_cases q : n ≤ 100
    · rw [decide_eq_true (by omega), if_pos rfl, fewest_sh (by omega) q, bsome, List.length_map, decide_eq_true rfl]
      rfl
    · rw [decide_eq_false (by omega), if_neg (by decide)]
  rw [k1]
  simp only [bsome, Bool.false_eq_true, if_false, seqO_nx]
  rw [by_shifts_ok hn0 (by omega) o1 o2]
  simp only [bsome, seqO_nx]
  obtain ⟨rr, er⟩ := rShow_ints (L := rowsF n o) (by unfold rowsF; rw [List.length_map]; omega) (rows_sh o1 o2)
  rw [er]
  simp only [bsome]
  rw [unE_map]
  simp only [bsome]
  rw [lNew_eq (show (sh n).length ≤ 16777216 by omega)]
  simp only [bsome]
  rw [map_ok (L := sh n) (g := fun s : (S_law × Int) × Int => (F__law_raised s.1.2).bind fun a => (iMul s.2 a).bind fun x1367 => iMul x1367 s.1.1.v_other) (h := fun t : T2 Int Int => t.b * 2 ^ t.a.toNat * o) _ (fun t ht => by
    obtain ⟨k, e1, e2, e3⟩ := sh_nat ht
    obtain ⟨b1, b2⟩ := pw_bd e2
    show ((F__law_raised t.a).bind fun a => (iMul t.b a).bind fun x1367 => iMul x1367 o) = _
    rw [← bassoc, raised_mul ht, bsome, e1, Int.toNat_natCast]
    refine iMul_sm ?_ ⟨by omega, by omega⟩
    rcases e3 with e | e
    · rw [e, Int.one_mul]; exact ⟨by omega, by omega⟩
    · rw [e]; exact ⟨by omega, by omega⟩)]
  simp only [bsome]
  rw [show ((sh n).map fun t : T2 Int Int => t.b * 2 ^ t.a.toNat * o) = rowsF n o from rfl, er]
  simp only [bsome, decide_true, Bool.not_true, Bool.false_eq_true, if_false]
  rw [iMul_sm ⟨by omega, by omega⟩ ⟨by omega, by omega⟩, show (rowsF n o).sum = (n : Int) * o by unfold rowsF; rw [rows_sum, sm_sh (by omega)]]
  simp only [bsome, decide_true, Bool.not_true, Bool.false_eq_true, if_false, seqO_nx]
  rw [iMul_sm (by decide) ⟨by omega, by omega⟩]
  simp only [bsome]
  rw [show (2 : Int) * (n : Int) = ((2 * n : Nat) : Int) by push_cast; rfl, shifts_ok (by omega) (by omega), sh_double hn0 (by omega)]
  simp only [bsome]
  obtain ⟨r9, e9⟩ := rShow_pairs (L := (sh n).map fun t => (⟨t.a + 1, t.b⟩ : T2 Int Int)) (by rw [List.length_map]; omega) (fun x hx => by
    obtain ⟨t, ht, rfl⟩ := List.mem_map.mp hx
    obtain ⟨k, e1, e2, e3⟩ := sh_nat ht
    exact ⟨shI_of (by dsimp only; omega) (by dsimp only; omega), shI_of (by dsimp only; omega) (by dsimp only; omega)⟩)
  rw [e9]
  simp only [bsome]
  rw [unE_map]
  simp only [bsome]
  rw [lNew_eq (show (sh n).length ≤ 16777216 by omega)]
  simp only [bsome]
  rw [map_ok (L := sh n) (g := fun s : (S_law × Int) × Int => some (T2.mk (s.1.2 + 1) s.2)) (h := fun t : T2 Int Int => (⟨t.a + 1, t.b⟩ : T2 Int Int)) _ (fun t ht => rfl)]
  simp only [bsome]
  rw [e9]
  simp only [bsome, decide_true, Bool.not_true, Bool.false_eq_true, if_false, seqO_nx]
  rw [push_eq (by rw [List.length_map]; omega)]
  simp only [bsome, seqO_nx]
  rw [push_eq (by unfold rowsF; rw [List.length_map]; omega)]
  simp only [bsome, seqO_nx]
  rw [shifts_ok hn0 (by omega)]
  simp only [bsome]
  rw [cut_last, dNe_e2]
  simp only [bsome, decide_true, Bool.not_true, Bool.false_eq_true, if_false]
  rw [by_shifts_ok hn0 (by omega) o1 o2]
  simp only [bsome]
  rw [cut_last, dNe_int]
  simp only [bsome, decide_true, Bool.not_true, Bool.false_eq_true, if_false, seqO_nx]
  rw [e5]
  simp only [bsome, seqO_nx]
  rw [e6]
  simp only [bsome]
  rw [e7]
  simp only [bsome]
  rw [ec7]
  simp only [bsome]
  rw [e8]
  simp only [bsome, seqO_nx]
  rw [hm, shifts_ok (by omega) (by omega)]
  simp only [bsome, seqO_nx]
  have hlst := lst_le ⟨m, by omega⟩
  dsimp only at hlst
  rw [least_ok hm0 hm1]
  simp only [bsome]
  rw [iMul_sm ⟨by omega, by omega⟩ ⟨by omega, by omega⟩]
  simp only [bsome, seqO_nx]
  have A : 0 ≤ r6 ∧ r6 ≤ 100 := ⟨by omega, by omega⟩
  have S : 0 ≤ r8 ∧ r8 ≤ 100 := ⟨by omega, by omega⟩
  obtain ⟨m1, m2⟩ := two_bits (n := m) A S
  rw [m1]
  simp only [bsome]
  rw [lNew_eq (show (sh m).length ≤ 16777216 by omega)]
  simp only [bsome]
  rw [filt_comp]
  simp only [bsome, List.length_map]
  rw [m2]
  simp only [bsome, seqO_nx]
  have u1 : r6 * ((lst.getD m 0 : Nat) : Int) = oneF m r6 := rfl
  have u2 : r6 * (((sh m).length : Int) - 1) + r8 * (((sh m).filter fun t => decide (t.a > 0)).length : Int) = twoF m r6 r8 := rfl
  rw [u1, u2]
  have b1 : -(2 ^ 100) < oneF m r6 ∧ oneF m r6 < 2 ^ 100 := by
    unfold oneF
    have h1 : r6 * ((lst.getD m 0 : Nat) : Int) ≤ 100 * 7 := Int.mul_le_mul A.2 (by omega) (by omega) (by decide)
    have h2 : 0 ≤ r6 * ((lst.getD m 0 : Nat) : Int) := Int.mul_nonneg A.1 (by omega)
    exact ⟨by omega, by omega⟩
  have b2 : -(2 ^ 100) < twoF m r6 r8 ∧ twoF m r6 r8 < 2 ^ 100 := by
    unfold twoF
    have hf : ((sh m).filter fun t => decide (t.a > 0)).length ≤ (sh m).length := List.length_filter_le _ _
    generalize ((sh m).filter fun t => decide (t.a > 0)).length = F at hf ⊢
    have h1 : r6 * ((sh m).length : Int) ≤ 100 * 41 := Int.mul_le_mul A.2 (by omega) (by omega) (by decide)
    have h2 : 0 ≤ r6 * ((sh m).length : Int) := Int.mul_nonneg A.1 (by omega)
    have h3 : r8 * (F : Int) ≤ 100 * 41 := Int.mul_le_mul S.2 (by omega) (by omega) (by decide)
    have h4 : 0 ≤ r8 * (F : Int) := Int.mul_nonneg S.1 (by omega)
    rw [Int.mul_sub, Int.mul_one]
    exact ⟨by omega, by omega⟩
  by_cases c : twoF m r6 r8 < oneF m r6
  · rw [decide_eq_true c, if_pos rfl]
    simp only [seqO_nx]
    rw [cheapest_ok hm0 hm1 A S, if_neg (by omega)]
    simp only [bsome]
    obtain ⟨r, e⟩ := rShow_it (i := twoF m r6 r8) (t := ⟨[115, 104, 105, 102, 116, 115]⟩) (shI_of (by omega) (by omega)) (by decide) (by decide)
    rw [e]
    simp only [bsome, decide_true, Bool.not_true, Bool.false_eq_true, if_false, seqO_nx]
  · rw [decide_eq_false c, if_neg (by decide)]
    simp only [seqO_nx]
    rw [cheapest_ok hm0 hm1 A S, if_pos (by omega)]
    simp only [bsome]
    obtain ⟨r, e⟩ := rShow_it (i := oneF m r6) (t := ⟨[99, 104, 97, 105, 110]⟩) (shI_of (by omega) (by omega)) (by decide) (by decide)
    rw [e]
    simp only [bsome, decide_true, Bool.not_true, Bool.false_eq_true, if_false, seqO_nx]
theorem kk1 : F_shifts 7 = some [⟨0, -1⟩, ⟨3, 1⟩] := by decide +kernel
theorem kk2 : F_cheapest 1 5 5 = some ⟨0, ⟨[99, 104, 97, 105, 110]⟩⟩ := by decide +kernel
theorem kk3 : F_by_shifts 3 5 = some [-5, 20] := by decide +kernel
theorem kd1 : dEq ([⟨0, -1⟩, ⟨3, 1⟩] : List (T2 Int Int)) [⟨0, -1⟩, ⟨3, 1⟩] = some true := by decide +kernel
theorem kd2 : dEq (⟨0, ⟨[99, 104, 97, 105, 110]⟩⟩ : T2 Int Tx) ⟨0, ⟨[99, 104, 97, 105, 110]⟩⟩ = some true := by decide +kernel
theorem kd3 : dEq ([-5, 20] : List Int) [-5, 20] = some true := by decide +kernel
theorem law_true (ns : List Int) (h : ns.length ≤ 63) : F_law ns = some true := by
  unfold F_law fb_law
  simp only [bsome]
  obtain ⟨l, e, hl, hb⟩ := draws_ok ns h
  rw [e]
  simp only [bsome, seqO_nx]
  rw [rng1_eq (by decide) (by decide)]
  simp only [bsome]
  rw [forO_same (g := (⟨ns, l, 0, 0, 0, [], [], [], 0, 0, 0, [], 0, 0, ⟨0, ⟨[]⟩⟩⟩ : S_law)) fun x hx => by
    have h1 := rng_mem hx
    exact body_ok hb hl (by omega) (by omega)]
  simp only [seqO_nx]
  rw [kk1, kk2, kk3]
  simp only [bsome]
  rw [kd1, kd2, kd3]
  simp only [bsome, if_true, seqO_rt, outF_rt]
end LW

open PySem PySem.Spec PySem.W PyProof.Rows L2 PL LW
set_option maxHeartbeats 0 in
theorem PySem.Challenge.cw_reckonedbyhand_k58_whole_products_by_shi_holds : PySem.Challenge.rw_reckonedbyhand_k58_whole_products_by_shi.Holds := by
  w_on; o_law; k_head; (case hw => w_witness2)
  k_fill
  refine PL.walk_at (l := PySem.Challenge.rw_reckonedbyhand_k58_whole_products_by_shi) (n := 63) (x := "script") (sp := fun w => spF _ N_law 1 sa_law .a (fun a => F_law a.1)) rfl (by decide) rfl (fun w h Y => PySem.W.kIn_of Y) ?F (fun w H a ns hl hS => sp_law .b nofun hS (LW.law_true ns hl) (j := 17) rfl rfl)
  case F =>
    intro w mg fa h KX G hmg
    obtain ⟨T, e, hb⟩ : ∃ T : LW.Top _ mg, T.a_law = fa ∧ (∀ (s : Shared) (u : Value), BindsTo s T.d_law ⟨[u], []⟩ [("script", u)]) := by
      refine' LW.mk_top KX G hmg ?a__law_draws ?l__law_draws ?c__law_draws ?k__law_draws ?a_check_number ?l_check_number ?c_check_number ?k_check_number ?a_lean_row ?l_lean_row ?c_lean_row ?k_lean_row ?a_shifts_of ?l_shifts_of ?c_shifts_of ?k_shifts_of ?a_shifts ?l_shifts ?c_shifts ?k_shifts ?a_doubled ?l_doubled ?c_doubled ?k_doubled ?a_by_shifts ?l_by_shifts ?c_by_shifts ?k_by_shifts ?a__law_mix ?l__law_mix ?c__law_mix ?k__law_mix ?a_next_of ?l_next_of ?c_next_of ?k_next_of ?a_gone_on ?l_gone_on ?c_gone_on ?k_gone_on ?a_first_of ?l_first_of ?c_first_of ?k_first_of ?a_least_steps ?l_least_steps ?c_least_steps ?k_least_steps ?a_cheapest ?l_cheapest ?c_cheapest ?k_cheapest ?a__law_raised ?l__law_raised ?c__law_raised ?k__law_raised ?a__law_fewest ?l__law_fewest ?c__law_fewest ?k__law_fewest ?a_law ?l_law ?c_law ?k_law ?z_abs ?z_enumerate ?z_int ?z_len ?z_min ?z_range ?z_repr ?z_set ?z_sorted ?z_sum ?q_MOST_BINARY ?q_MOST_NUMBER ?q_MOST_PRICE
      (case a__law_draws => k_is)
      (case l__law_draws => k_is)
      (case c__law_draws => k_is)
      (case k__law_draws => k_is)
      (case a_check_number => k_is)
      (case l_check_number => k_is)
      (case c_check_number => k_is)
      (case k_check_number => k_is)
      (case a_lean_row => k_is)
      (case l_lean_row => k_is)
      (case c_lean_row => k_is)
      (case k_lean_row => k_is)
      (case a_shifts_of => k_is)
      (case l_shifts_of => k_is)
      (case c_shifts_of => k_is)
      (case k_shifts_of => k_is)
      (case a_shifts => k_is)
      (case l_shifts => k_is)
      (case c_shifts => k_is)
      (case k_shifts => k_is)
      (case a_doubled => k_is)
      (case l_doubled => k_is)
      (case c_doubled => k_is)
      (case k_doubled => k_is)
      (case a_by_shifts => k_is)
      (case l_by_shifts => k_is)
      (case c_by_shifts => k_is)
      (case k_by_shifts => k_is)
      (case a__law_mix => k_is)
      (case l__law_mix => k_is)
      (case c__law_mix => k_is)
      (case k__law_mix => k_is)
      (case a_next_of => k_is)
      (case l_next_of => k_is)
      (case c_next_of => k_is)
      (case k_next_of => k_is)
      (case a_gone_on => k_is)
      (case l_gone_on => k_is)
      (case c_gone_on => k_is)
      (case k_gone_on => k_is)
      (case a_first_of => k_is)
      (case l_first_of => k_is)
      (case c_first_of => k_is)
      (case k_first_of => k_is)
      (case a_least_steps => k_is)
      (case l_least_steps => k_is)
      (case c_least_steps => k_is)
      (case k_least_steps => k_is)
      (case a_cheapest => k_is)
      (case l_cheapest => k_is)
      (case c_cheapest => k_is)
      (case k_cheapest => k_is)
      (case a__law_raised => k_is)
      (case l__law_raised => k_is)
      (case c__law_raised => k_is)
      (case k__law_raised => k_is)
      (case a__law_fewest => k_is)
      (case l__law_fewest => k_is)
      (case c__law_fewest => k_is)
      (case k__law_fewest => k_is)
      (case a_law => k_is)
      (case l_law => k_is)
      (case c_law => k_is)
      (case k_law => k_is)
      (case z_abs => k_is)
      (case z_enumerate => k_is)
      (case z_int => k_is)
      (case z_len => k_is)
      (case z_min => k_is)
      (case z_range => k_is)
      (case z_repr => k_is)
      (case z_set => k_is)
      (case z_sorted => k_is)
      (case z_sum => k_is)
      (case q_MOST_BINARY => k_is)
      (case q_MOST_NUMBER => k_is)
      (case q_MOST_PRICE => k_is)
    subst e
    exact ⟨T.d_law, hb, fun base _ _ => LW.ok_law T⟩
