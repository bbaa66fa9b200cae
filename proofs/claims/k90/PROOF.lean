import PyProof.Rows.All
import Wide.All
import OpenK.AllK
import Wide.FinOn
import HandS.ForMost
import HandS.TupAny
import HandS.Deep
import HandS.RevRange
import HandS.Flow
import HandS.Codes
import HandS.IsInst
import HandS.SortInts
import HandS.Small
import HandS.More
import HandS.Style
import HandS.TupLe
import KE.KStateDown
import Lean
import HandS.WordsExc
import HandS.Defaults
import HandS.Head0
import HandS.Head1
import HandS.Head2
import HandS.HeadEnd
import HandS.HeadHook1
import HandS.HeadHook2
import HandS.HeadHook3
import PySem.Challenge.RW_finesse_k90_whole_scores_of_auctions
set_option Elab.async false
set_option linter.all false
set_option maxRecDepth 100000
set_option maxHeartbeats 4000000
/-! DL: data-level readings over the hand layer. Immutable data are values; what is changed is a cell of a store. -/
namespace DL
open PySem L2
/-! ### data -/
inductive D where
  | non | bl (b : Bool) | int (i : Int) | str (x : Str)
  | tup (xs : List D) | lst (xs : List D)
  | frz (xs : List D)
  | ref (a : Addr)
instance : Inhabited D := ⟨.non⟩
mutual
def D.beq : D → D → Bool
  | .non, .non => true
  | .bl a, .bl b => decide (a = b)
  | .int a, .int b => decide (a = b)
  | .str a, .str b => decide (a = b)
  | .tup a, .tup b => D.beqL a b
  | .lst a, .lst b => D.beqL a b
  | .frz a, .frz b => D.beqL a b
  | .ref a, .ref b => decide (a = b)
  | _, _ => false
def D.beqL : List D → List D → Bool
  | [], [] => true
  | x :: xs, y :: ys => D.beq x y && D.beqL xs ys
  | _, _ => false
end
mutual
theorem D.beq_eq : ∀ (x y : D), D.beq x y = true → x = y
  | .non, y, h => by cases y <;> simp [D.beq] at h ⊢
  | .bl a, y, h => by cases y <;> simp [D.beq] at h ⊢; exact h
  | .int a, y, h => by cases y <;> simp [D.beq] at h ⊢; exact h
  | .str a, y, h => by cases y <;> simp [D.beq] at h ⊢; exact h
  | .ref a, y, h => by cases y <;> simp [D.beq] at h ⊢; exact h
  | .tup a, y, h => by cases y <;> simp [D.beq] at h ⊢; exact D.beqL_eq _ _ h
  | .lst a, y, h => by cases y <;> simp [D.beq] at h ⊢; exact D.beqL_eq _ _ h
  | .frz a, y, h => by cases y <;> simp [D.beq] at h ⊢; exact D.beqL_eq _ _ h
theorem D.beqL_eq : ∀ (x y : List D), D.beqL x y = true → x = y
  | [], y, h => by cases y <;> simp [D.beqL] at h ⊢
  | x :: xs, y, h => by
    cases y with
    | nil => simp [D.beqL] at h
    | cons y ys =>
      simp [D.beqL] at h
      rw [D.beq_eq x y h.1, D.beqL_eq xs ys h.2]
end
mutual
theorem D.beq_refl : ∀ x : D, D.beq x x = true
  | .non => by simp [D.beq]
  | .bl a => by simp [D.beq]
  | .int a => by simp [D.beq]
  | .str a => by simp [D.beq]
  | .ref a => by simp [D.beq]
  | .tup a => by simp [D.beq]; exact D.beqL_refl a
  | .lst a => by simp [D.beq]; exact D.beqL_refl a
  | .frz a => by simp [D.beq]; exact D.beqL_refl a
theorem D.beqL_refl : ∀ x : List D, D.beqL x x = true
  | [] => by simp [D.beqL]
  | x :: xs => by simp [D.beqL, D.beq_refl x, D.beqL_refl xs]
end
instance : DecidableEq D := fun x y =>
  if h : D.beq x y = true then isTrue (D.beq_eq x y h) else isFalse fun e => h (by rw [e]; exact D.beq_refl y)
theorem D.beq_dec (x y : D) : D.beq x y = decide (x = y) := by
  by_cases h : x = y
  · rw [h, D.beq_refl, decide_eq_true rfl]
  · rw [decide_eq_false h]
    cases q : D.beq x y with
    | false => rfl
    | true => exact absurd (D.beq_eq x y q) h
/-! as the library's data -/
mutual
def D.py : D → PyData
  | .non => .none
  | .bl b => .bool b
  | .int i => .int i
  | .str x => .str x
  | .tup xs => .tuple (D.pyL xs)
  | .lst xs => .list (D.pyL xs)
  | .ref _ => .none
  | .frz _ => .none
def D.pyL : List D → List PyData
  | [] => []
  | x :: xs => D.py x :: D.pyL xs
end
/-! no bool, no object inside; texts of code points: == is equality -/
mutual
def D.plain : D → Bool
  | .non => true
  | .bl _ => false
  | .int _ => true
  | .str x => x.cps.all (· < 0x110000)
  | .tup xs => D.plainL xs
  | .lst xs => D.plainL xs
  | .ref _ => false
  | .frz _ => false
def D.plainL : List D → Bool
  | [] => true
  | x :: xs => D.plain x && D.plainL xs
end
mutual
theorem D.eqv_py : ∀ (x y : D), D.plain x = true → D.plain y = true → PyData.eqv x.py y.py = D.beq x y
  | .non, y, _, h => by cases y <;> simp [D.py, PyData.eqv, D.beq, D.plain] at h ⊢
  | .bl a, y, h, _ => by simp [D.plain] at h
  | .int a, y, _, h => by cases y <;> simp [D.py, PyData.eqv, D.beq, D.plain] at h ⊢; rfl
  | .str a, y, _, h => by cases y <;> simp [D.py, PyData.eqv, D.beq, D.plain] at h ⊢; rfl
  | .ref a, y, h, _ => by simp [D.plain] at h
  | .frz a, y, h, _ => by simp [D.plain] at h
  | .tup a, y, h, h' => by
    cases y <;> simp [D.py, PyData.eqv, D.beq, D.plain] at h h' ⊢
    exact D.eqv_pyL _ _ h h'
  | .lst a, y, h, h' => by
    cases y <;> simp [D.py, PyData.eqv, D.beq, D.plain] at h h' ⊢
    exact D.eqv_pyL _ _ h h'
theorem D.eqv_pyL : ∀ (x y : List D), D.plainL x = true → D.plainL y = true → PyData.eqvAll (D.pyL x) (D.pyL y) = D.beqL x y
  | [], y, _, _ => by cases y <;> simp [D.pyL, PyData.eqvAll, D.beqL]
  | x :: xs, y, h, h' => by
    cases y with
    | nil => simp [D.pyL, PyData.eqvAll, D.beqL]
    | cons y ys =>
      simp [D.plainL] at h h'
      simp [D.pyL, PyData.eqvAll, D.beqL, D.eqv_py x y h.1 h'.1, D.eqv_pyL xs ys h.2 h'.2]
end
mutual
theorem D.canLay_py : ∀ x : D, D.plain x = true → PyData.canLay0 x.py = true
  | .non, _ => by simp [D.py, PyData.canLay0]
  | .bl a, h => by simp [D.plain] at h
  | .int a, _ => by simp [D.py, PyData.canLay0]
  | .str a, h => by
    unfold D.plain at h
    simpa [D.py, PyData.canLay0, PyData.strOk] using h
  | .ref a, h => by simp [D.plain] at h
  | .frz a, h => by simp [D.plain] at h
  | .tup a, h => by
    simp [D.plain] at h
    simpa [D.py, PyData.canLay0] using D.canLay_pyL a h
  | .lst a, h => by
    simp [D.plain] at h
    simpa [D.py, PyData.canLay0] using D.canLay_pyL a h
theorem D.canLay_pyL : ∀ x : List D, D.plainL x = true → PyData.canLayAll0 (D.pyL x) = true
  | [], _ => by simp [D.pyL, PyData.canLayAll0]
  | x :: xs, h => by
    simp [D.plainL] at h
    simp [D.pyL, PyData.canLayAll0, D.canLay_py x h.1, D.canLay_pyL xs h.2]
end
/-! depth -/
mutual
def D.dep : D → Nat
  | .tup xs => D.depL xs + 1
  | .lst xs => D.depL xs + 1
  | .non | .bl _ | .int _ | .str _ | .ref _ | .frz _ => 0
def D.depL : List D → Nat
  | [] => 0
  | x :: xs => max (D.dep x) (D.depL xs)
end
mutual
theorem D.dep_py : ∀ x : D, PyData.depth x.py = D.dep x
  | .non => by simp [D.py, PyData.depth, D.dep]
  | .bl _ => by simp [D.py, PyData.depth, D.dep]
  | .int _ => by simp [D.py, PyData.depth, D.dep]
  | .str _ => by simp [D.py, PyData.depth, D.dep]
  | .ref _ => by simp [D.py, PyData.depth, D.dep]
  | .frz _ => by simp [D.py, PyData.depth, D.dep]
  | .tup xs => by simp [D.py, PyData.depth, D.dep, D.dep_pyL xs]
  | .lst xs => by simp [D.py, PyData.depth, D.dep, D.dep_pyL xs]
theorem D.dep_pyL : ∀ x : List D, PyData.depthAll (D.pyL x) = D.depL x
  | [] => by simp [D.pyL, PyData.depthAll, D.depL]
  | x :: xs => by simp [D.pyL, PyData.depthAll, D.depL, D.dep_py x, D.dep_pyL xs]
end
/-- data whose == is equality, of small depth -/
def D.ok (x : D) : Bool := x.plain && decide (x.dep ≤ 60)
theorem D.ok_plain {x : D} (h : x.ok = true) : x.plain = true := (Bool.and_eq_true_iff.mp h).1
theorem D.ok_shaped {x : D} (h : x.ok = true) : SeqAt.shaped x.py = true := by
  unfold SeqAt.shaped
  rw [D.canLay_py x (D.ok_plain h), D.dep_py]
  have := of_decide_eq_true (Bool.and_eq_true_iff.mp h).2
  simp; omega
theorem D.pyL_map (xs : List D) : D.pyL xs = xs.map D.py := by
  induction xs with
  | nil => rfl
  | cons x xs ih => simp [D.pyL, ih]
theorem D.plainL_all (xs : List D) : D.plainL xs = xs.all D.plain := by
  induction xs with
  | nil => rfl
  | cons x xs ih => simp [D.plainL, ih]
theorem D.depL_le {xs : List D} {n : Nat} (h : ∀ x ∈ xs, x.dep ≤ n) : D.depL xs ≤ n := by
  induction xs with
  | nil => simp [D.depL]
  | cons x xs ih =>
    simp [D.depL]
    exact Nat.max_le.mpr ⟨h x (by simp), ih fun y hy => h y (by simp [hy])⟩
theorem D.dep_le_depL {xs : List D} {x : D} (h : x ∈ xs) : x.dep ≤ D.depL xs := by
  induction xs with
  | nil => simp at h
  | cons y ys ih =>
    simp [D.depL]
    rcases List.mem_cons.mp h with rfl | h
    · exact Nat.le_max_left _ _
    · exact Nat.le_trans (ih h) (Nat.le_max_right _ _)
/-! ### heaps that grow; data that stand in a heap -/
def Ex (H H' : Hp) : Prop := ∀ a o, H a = some o → H' a = some o
theorem Ex.refl (H : Hp) : Ex H H := fun _ _ h => h
theorem Ex.trans {H H1 H2 : Hp} (a : Ex H H1) (b : Ex H1 H2) : Ex H H2 := fun x o h => b x o (a x o h)
theorem Ex.new {H : Hp} {p : Addr} {o : HO} (h : H p = none) : Ex H (upd H p o) := fun a u e => by
  rw [upd_ne (ne_of_none e h)]
  exact e
/-- both grow by the same new object -/
theorem Ex.both {H H' : Hp} {p : Addr} {o : HO} (e : Ex H H') (h : H' p = none) : Ex (upd H p o) (upd H' p o) := fun a u q => by
  by_cases z : a = p
  · subst z
    rw [upd_same] at q ⊢
    exact q
  · rw [upd_ne z] at q ⊢
    exact e a u q
/-- an object that H does not know may change -/
theorem Ex.mut {H H' : Hp} {p : Addr} {o : HO} (e : Ex H H') (h : H p = none) : Ex H (upd H' p o) := fun a u ha => by
  rw [upd_ne (ne_of_none ha h)]
  exact e a u ha
theorem Ex.rd {H H' : Hp} {a : Addr} {u : HO} (e : Ex H H') (h : Rd H a u) : Rd H' a u := by
  rcases h with h | ⟨o, h⟩
  · exact Or.inl (e a _ h)
  · exact Or.inr ⟨o, e a _ h⟩
theorem Ex.l {K : PySem.W.Frag} {H H' : Hp} {a : Addr} {xs : List V} (e : Ex H H') (h : SqL K H a xs) : SqL K H' a xs := by
  rcases h with h | h
  · exact Or.inl (e.rd h)
  · exact Or.inr h
theorem Ex.t {K : PySem.W.Frag} {H H' : Hp} {a : Addr} {xs : List V} (e : Ex H H') (h : SqT K H a xs) : SqT K H' a xs := by
  rcases h with h | h
  · exact Or.inl (e.rd h)
  · exact Or.inr h
theorem sq_of {K : PySem.W.Frag} {H : Hp} {a : Addr} {xs : List V} (h : H a = some (.lst xs)) : SqL K H a xs := Or.inl (Or.inl h)
theorem st_of {K : PySem.W.Frag} {H : Hp} {a : Addr} {xs : List V} (h : H a = some (.tup xs)) : SqT K H a xs := Or.inl (Or.inl h)
mutual
inductive Rp (K : PySem.W.Frag) (G : Hp) : V → D → Prop
  | non : Rp K G .non .non
  | bl (b : Bool) : Rp K G (.bl b) (.bl b)
  | int (i : Int) : Rp K G (.int i) (.int i)
  | str (x : Str) : Rp K G (.str x) (.str x)
  | ref (a : Addr) : Rp K G (.ref a) (.ref a)
  | tup {a : Addr} {xs : List V} {ds : List D} : SqT K G a xs → RpL K G xs ds → Rp K G (.ref a) (.tup ds)
  | lst {a : Addr} {xs : List V} {ds : List D} : G a = some (.lst xs) → RpL K G xs ds → Rp K G (.ref a) (.lst ds)
  | frz {a : Addr} {xs : List V} {ds : List D} : SqL K G a xs → RpL K G xs ds → Rp K G (.ref a) (.frz ds)
inductive RpL (K : PySem.W.Frag) (G : Hp) : List V → List D → Prop
  | nil : RpL K G [] []
  | cons {v : V} {vs : List V} {d : D} {ds : List D} : Rp K G v d → RpL K G vs ds → RpL K G (v :: vs) (d :: ds)
end
section
variable {K : PySem.W.Frag} {G G' H H' : Hp}
mutual
theorem Rp.mono (e : Ex G G') : ∀ {v : V} {d : D}, Rp K G v d → Rp K G' v d
  | _, _, .non => .non
  | _, _, .bl b => .bl b
  | _, _, .int i => .int i
  | _, _, .str x => .str x
  | _, _, .ref a => .ref a
  | _, _, .tup h r => .tup (e.t h) (RpL.mono e r)
  | _, _, .lst h r => .lst (e _ _ h) (RpL.mono e r)
  | _, _, .frz h r => .frz (e.l h) (RpL.mono e r)
theorem RpL.mono (e : Ex G G') : ∀ {vs : List V} {ds : List D}, RpL K G vs ds → RpL K G' vs ds
  | _, _, .nil => .nil
  | _, _, .cons h r => .cons (Rp.mono e h) (RpL.mono e r)
end
theorem RpL.length : ∀ {vs : List V} {ds : List D}, RpL K G vs ds → vs.length = ds.length
  | _, _, .nil => rfl
  | _, _, .cons _ r => by simp [RpL.length r]
theorem RpL.get : ∀ {vs : List V} {ds : List D} {i : Nat} {d : D}, RpL K G vs ds → ds[i]? = some d → ∃ v, vs[i]? = some v ∧ Rp K G v d
  | _, _, _, _, .nil, e => by simp at e
  | _, _, 0, _, .cons h _, e => by simp at e; subst e; exact ⟨_, rfl, h⟩
  | _, _, i + 1, _, .cons _ r, e => by
    obtain ⟨v, h1, h2⟩ := RpL.get (i := i) r (by simpa using e)
    exact ⟨v, by simpa using h1, h2⟩
theorem RpL.getV : ∀ {vs : List V} {ds : List D} {i : Nat} {v : V}, RpL K G vs ds → vs[i]? = some v → ∃ d, ds[i]? = some d ∧ Rp K G v d
  | _, _, _, _, .nil, e => by simp at e
  | _, _, 0, _, .cons h _, e => by simp at e; subst e; exact ⟨_, rfl, h⟩
  | _, _, i + 1, _, .cons _ r, e => by
    obtain ⟨v, h1, h2⟩ := RpL.getV (i := i) r (by simpa using e)
    exact ⟨v, by simpa using h1, h2⟩
theorem RpL.append : ∀ {vs us : List V} {ds es : List D}, RpL K G vs ds → RpL K G us es → RpL K G (vs ++ us) (ds ++ es)
  | _, _, _, _, .nil, s => s
  | _, _, _, _, .cons h r, s => .cons h (RpL.append r s)
theorem RpL.snoc {vs : List V} {ds : List D} {v : V} {d : D} (r : RpL K G vs ds) (h : Rp K G v d) : RpL K G (vs ++ [v]) (ds ++ [d]) := r.append (.cons h .nil)
theorem RpL.take : ∀ {vs : List V} {ds : List D} (n : Nat), RpL K G vs ds → RpL K G (vs.take n) (ds.take n)
  | _, _, 0, _ => .nil
  | _, _, _ + 1, .nil => .nil
  | _, _, n + 1, .cons h r => .cons h (RpL.take n r)
theorem RpL.drop : ∀ {vs : List V} {ds : List D} (n : Nat), RpL K G vs ds → RpL K G (vs.drop n) (ds.drop n)
  | _, _, 0, r => r
  | _, _, _ + 1, .nil => .nil
  | _, _, n + 1, .cons _ r => RpL.drop n r
theorem RpL.set : ∀ {vs : List V} {ds : List D} (n : Nat) {v : V} {d : D}, RpL K G vs ds → Rp K G v d → RpL K G (vs.set n v) (ds.set n d)
  | _, _, _, _, _, .nil, _ => .nil
  | _, _, 0, _, _, .cons _ r, h => .cons h r
  | _, _, n + 1, _, _, .cons h' r, h => .cons h' (RpL.set n r h)
theorem RpL.eraseIdx : ∀ {vs : List V} {ds : List D} (n : Nat), RpL K G vs ds → RpL K G (vs.eraseIdx n) (ds.eraseIdx n)
  | _, _, _, .nil => .nil
  | _, _, 0, .cons _ r => r
  | _, _, n + 1, .cons h' r => .cons h' (RpL.eraseIdx n r)
theorem RpL.reverse {vs : List V} {ds : List D} (r : RpL K G vs ds) : RpL K G vs.reverse ds.reverse := by
  induction vs generalizing ds with
  | nil => cases r; exact .nil
  | cons v vs ih =>
    cases r with
    | cons h r =>
      rw [List.reverse_cons, List.reverse_cons]
      exact (ih r).snoc h
/-- ints -/
theorem RpL.ints : ∀ {vs : List V} {ns : List Int}, RpL K G vs (ns.map D.int) → vs = ns.map V.int
  | _, [], .nil => rfl
  | _, n :: ns, .cons h r => by
    cases h
    rw [RpL.ints r]
    rfl
theorem RpL.of_ints (ns : List Int) : RpL K G (ns.map V.int) (ns.map D.int) := by
  induction ns with
  | nil => exact .nil
  | cons n ns ih => exact .cons (.int n) ih
theorem RpL.strs : ∀ {vs : List V} {ns : List Str}, RpL K G vs (ns.map D.str) → vs = ns.map V.str
  | _, [], .nil => rfl
  | _, n :: ns, .cons h r => by
    cases h
    rw [RpL.strs r]
    rfl
theorem RpL.of_strs (ns : List Str) : RpL K G (ns.map V.str) (ns.map D.str) := by
  induction ns with
  | nil => exact .nil
  | cons n ns ih => exact .cons (.str n) ih
/-! as the library's data -/
mutual
theorem Rp.dp (e : Ex G H) : ∀ {v : V} {d : D}, Rp K G v d → d.plain = true → Dp K H v d.py
  | _, _, .non, _ => by rw [D.py]; exact .non
  | _, _, .bl b, h => by simp [D.plain] at h
  | _, _, .int i, _ => by rw [D.py]; exact .int i
  | _, _, .str x, _ => by rw [D.py]; exact .str x
  | _, _, .ref a, h => by simp [D.plain] at h
  | _, _, .tup q r, h => by rw [D.py]; exact .tup (e.t q) (RpL.dp e r (by simpa [D.plain] using h))
  | _, _, .lst q r, h => by rw [D.py]; exact .lst (sq_of (e _ _ q)) (RpL.dp e r (by simpa [D.plain] using h))
  | _, _, .frz q r, h => by simp [D.plain] at h
theorem RpL.dp (e : Ex G H) : ∀ {vs : List V} {ds : List D}, RpL K G vs ds → D.plainL ds = true → DpAll K H vs (D.pyL ds)
  | _, _, .nil, _ => by rw [D.pyL]; exact .nil
  | _, _, .cons a r, h => by
    simp [D.plainL] at h
    rw [D.pyL]
    exact .cons (Rp.dp e a h.1) (RpL.dp e r h.2)
end
end
/-! ### cells -/
inductive Cell where
  | ins (tag : Str) (fs : List (Str × D))
  | lst (ds : List D)
  | dK (kvs : List (Key × D))
abbrev Sg := Addr → Option Cell
def put (S : Sg) (a : Addr) (c : Cell) : Sg := fun b => if b = a then some c else S b
def del (S : Sg) (a : Addr) : Sg := fun b => if b = a then none else S b
theorem put_same {S : Sg} {a : Addr} {c : Cell} : put S a c a = some c := by unfold put; rw [if_pos rfl]
theorem put_ne {S : Sg} {a b : Addr} {c : Cell} (h : b ≠ a) : put S a c b = S b := by unfold put; rw [if_neg h]
theorem put_put {S : Sg} {a : Addr} {c d : Cell} : put (put S a c) a d = put S a d := by
  funext b; unfold put; split <;> rfl
theorem put_self {S : Sg} {a : Addr} {c : Cell} (h : S a = some c) : put S a c = S := by
  funext b
  by_cases e : b = a
  · rw [e, put_same, h]
  · rw [put_ne e]
theorem del_put {S : Sg} {a : Addr} {c : Cell} (h : S a = none) : del (put S a c) a = S := by
  funext b
  unfold del
  by_cases e : b = a
  · rw [if_pos e, e, h]
  · rw [if_neg e, put_ne e]
/-- the class named tag stands at C -/
def ClsAt (K : PySem.W.Frag) (tag : Str) (C : Addr) : Prop := PySem.W.nsIn K mainGlobals tag = some (some (.ref C))
theorem ClsAt.inj {K : PySem.W.Frag} {tag : Str} {C C' : Addr} (h : ClsAt K tag C) (h' : ClsAt K tag C') : C = C' := by
  unfold ClsAt at h h'
  rw [h] at h'
  cases h'
  rfl
abbrev FRp (K : PySem.W.Frag) (G : Hp) : List (Str × V) → List (Str × D) → Prop := Paired fun p q => p.1 = q.1 ∧ Rp K G p.2 q.2
abbrev KRp {κ : Type} (K : PySem.W.Frag) (G : Hp) : List (κ × V) → List (κ × D) → Prop := Paired fun p q => p.1 = q.1 ∧ Rp K G p.2 q.2
inductive CR (K : PySem.W.Frag) (G : Hp) : HO → Cell → Prop
  | ins {C dx : Addr} {vs : List (Str × V)} {tag : Str} {fs : List (Str × D)} : ClsAt K tag C → FRp K G vs fs → CR K G (.ins C dx vs) (.ins tag fs)
  | lst {xs : List V} {ds : List D} : RpL K G xs ds → CR K G (.lst xs) (.lst ds)
  | dK {kvs : List (Key × V)} {kds : List (Key × D)} : KRp K G kvs kds → CR K G (.dK kvs) (.dK kds)
section
variable {K : PySem.W.Frag} {G G' H H' : Hp}
theorem KRp.mono {κ : Type} (e : Ex G G') {a : List (κ × V)} {b : List (κ × D)} (h : KRp K G a b) : KRp K G' a b := L2.Paired.mapP h fun _ _ q => ⟨q.1, q.2.mono e⟩
theorem CR.mono (e : Ex G G') {o : HO} {c : Cell} (h : CR K G o c) : CR K G' o c := by
  cases h with
  | ins h r => exact .ins h (KRp.mono e r)
  | lst r => exact .lst (r.mono e)
  | dK r => exact .dK (KRp.mono e r)
/-- F: what is to stay as it is; G: what never changes; S: the cells -/
structure Wd (K : PySem.W.Frag) (F G H : Hp) (S : Sg) : Prop where
  sub : Ex G H
  cel : ∀ a c, S a = some c → G a = none ∧ ∃ o, H a = some o ∧ CR K G o c
  frm : ∀ a o, F a = some o → H a = some o ∧ G a = none ∧ S a = none
variable {S : Sg} {F : Hp}
theorem Wd.free (W : Wd K F G H S) {p : Addr} (h : H p = none) : S p = none := by
  cases e : S p with
  | none => rfl
  | some c =>
    obtain ⟨_, o, q, _⟩ := W.cel p c e
    rw [h] at q
    cases q
theorem Wd.freeG (W : Wd K F G H S) {p : Addr} (h : H p = none) : G p = none := by
  cases e : G p with
  | none => rfl
  | some c =>
    rw [W.sub p c e] at h
    cases h
theorem Wd.freeF (W : Wd K F G H S) {p : Addr} (h : H p = none) : F p = none := by
  cases e : F p with
  | none => rfl
  | some c =>
    rw [(W.frm p c e).1] at h
    cases h
theorem Wd.cellF (W : Wd K F G H S) {p : Addr} {c : Cell} (h : S p = some c) : F p = none := by
  cases e : F p with
  | none => rfl
  | some o =>
    rw [(W.frm p o e).2.2] at h
    cases h
/-- a new object that never changes -/
theorem Wd.newG (W : Wd K F G H S) {p : Addr} {o : HO} (h : H p = none) : Wd K F (upd G p o) (upd H p o) S :=
  ⟨W.sub.both h, fun a c e => by
    obtain ⟨g, u, q, r⟩ := W.cel a c e
    have ne : a ≠ p := ne_of_none q h
    exact ⟨by rw [upd_ne ne]; exact g, u, by rw [upd_ne ne]; exact q, r.mono (Ex.new (W.freeG h))⟩, fun a u e => by
    obtain ⟨q, g, s⟩ := W.frm a u e
    have ne : a ≠ p := ne_of_none q h
    exact ⟨by rw [upd_ne ne]; exact q, by rw [upd_ne ne]; exact g, s⟩⟩
/-- a new object that nobody speaks of -/
theorem Wd.newH (W : Wd K F G H S) {p : Addr} {o : HO} (h : H p = none) : Wd K F G (upd H p o) S :=
  ⟨fun a u e => by rw [upd_ne (ne_of_none (W.sub a u e) h)]; exact W.sub a u e, fun a c e => by
    obtain ⟨g, u, q, r⟩ := W.cel a c e
    exact ⟨g, u, by rw [upd_ne (ne_of_none q h)]; exact q, r⟩, fun a u e => by
    obtain ⟨q, g, s⟩ := W.frm a u e
    exact ⟨by rw [upd_ne (ne_of_none q h)]; exact q, g, s⟩⟩
/-- a new object that is to stay -/
theorem Wd.newF (W : Wd K F G H S) {p : Addr} {o : HO} (h : H p = none) : Wd K (upd F p o) G (upd H p o) S :=
  ⟨(W.newH h).sub, (W.newH h).cel, fun a u e => by
    by_cases z : a = p
    · subst z
      rw [upd_same] at e ⊢
      exact ⟨e, W.freeG h, W.free h⟩
    · rw [upd_ne z] at e
      exact (W.newH h).frm a u e⟩
/-- what is to stay changes -/
theorem Wd.chF (W : Wd K F G H S) {p : Addr} {o o' : HO} (h : F p = some o) : Wd K (upd F p o') G (upd H p o') S :=
  ⟨W.sub.mut (W.frm p o h).2.1, fun a c e => by
    obtain ⟨g, u, q, r⟩ := W.cel a c e
    have z : a ≠ p := fun z => by rw [z, (W.frm p o h).2.2] at e; cases e
    exact ⟨g, u, by rw [upd_ne z]; exact q, r⟩, fun a u e => by
    by_cases z : a = p
    · subst z
      rw [upd_same] at e ⊢
      exact ⟨e, (W.frm a o h).2⟩
    · rw [upd_ne z] at e ⊢
      exact W.frm a u e⟩
/-- less is to stay -/
theorem Wd.lessF (W : Wd K F G H S) {F' : Hp} (h : Ex F' F) : Wd K F' G H S := ⟨W.sub, W.cel, fun a u e => W.frm a u (h a u e)⟩
/-- what stood by becomes a value -/
theorem Wd.own (W : Wd K F G H S) {p : Addr} {o : HO} (h : H p = some o) (g : G p = none) (s : S p = none) (f : F p = none) : Wd K F (upd G p o) H S :=
  ⟨fun a u e => by
    by_cases z : a = p
    · subst z
      rw [upd_same] at e
      cases e
      exact h
    · rw [upd_ne z] at e
      exact W.sub a u e, fun a c e => by
    have z : a ≠ p := fun z => by rw [z, s] at e; cases e
    obtain ⟨g', u, q, r⟩ := W.cel a c e
    exact ⟨by rw [upd_ne z]; exact g', u, q, r.mono (Ex.new g)⟩, fun a u e => by
    have z : a ≠ p := fun z => by rw [z, f] at e; cases e
    obtain ⟨q, g', s'⟩ := W.frm a u e
    exact ⟨q, by rw [upd_ne z]; exact g', s'⟩⟩
/-- what stood by becomes a cell -/
theorem Wd.cell (W : Wd K F G H S) {p : Addr} {o : HO} {c : Cell} (h : H p = some o) (g : G p = none) (f : F p = none) (r : CR K G o c) : Wd K F G H (put S p c) :=
  ⟨W.sub, fun a d e => by
    by_cases z : a = p
    · subst z
      rw [put_same] at e
      cases e
      exact ⟨g, o, h, r⟩
    · rw [put_ne z] at e
      exact W.cel a d e, fun a u e => by
    have z : a ≠ p := fun z => by rw [z, f] at e; cases e
    obtain ⟨q, g', s'⟩ := W.frm a u e
    exact ⟨q, g', by rw [put_ne z]; exact s'⟩⟩
/-- a cell is changed -/
theorem Wd.put (W : Wd K F G H S) {p : Addr} {o : HO} {c : Cell} (h : G p = none) (f : F p = none) (r : CR K G o c) : Wd K F G (upd H p o) (put S p c) :=
  ⟨W.sub.mut h, fun a d e => by
    by_cases z : a = p
    · subst z
      rw [put_same] at e
      cases e
      exact ⟨h, o, upd_same, r⟩
    · rw [put_ne z] at e
      obtain ⟨g, u, q, r'⟩ := W.cel a d e
      exact ⟨g, u, by rw [upd_ne z]; exact q, r'⟩, fun a u e => by
    have z : a ≠ p := fun z => by rw [z, f] at e; cases e
    obtain ⟨q, g', s'⟩ := W.frm a u e
    exact ⟨by rw [upd_ne z]; exact q, g', by rw [put_ne z]; exact s'⟩⟩
/-- fewer cells -/
theorem Wd.less (W : Wd K F G H S) {S' : Sg} (h : ∀ a c, S' a = some c → S a = some c) : Wd K F G H S' := ⟨W.sub, fun a c e => W.cel a c (h a c e), fun a u e => by
  obtain ⟨q, g, s⟩ := W.frm a u e
  refine ⟨q, g, ?_⟩
  cases z : S' a with
  | none => rfl
  | some c => rw [h a c z] at s; cases s⟩
/-- a cell is frozen: it becomes a value -/
theorem Wd.freeze (W : Wd K F G H S) {p : Addr} {o : HO} (h : H p = some o) (g : G p = none) (f : F p = none) : Wd K F (upd G p o) H (del S p) :=
  (W.less (S' := del S p) fun a c e => by
    unfold del at e
    by_cases z : a = p
    · rw [if_pos z] at e; cases e
    · rw [if_neg z] at e; exact e).own h g (by unfold del; rw [if_pos rfl]) f
theorem Wd.lst (W : Wd K F G H S) {p : Addr} {ds : List D} (h : S p = some (.lst ds)) : ∃ xs, H p = some (.lst xs) ∧ RpL K G xs ds ∧ G p = none := by
  obtain ⟨g, o, q, r⟩ := W.cel p _ h
  cases r with
  | lst r => exact ⟨_, q, r, g⟩
theorem Wd.dK (W : Wd K F G H S) {p : Addr} {ds : List (Key × D)} (h : S p = some (.dK ds)) : ∃ kvs, H p = some (.dK kvs) ∧ KRp K G kvs ds ∧ G p = none := by
  obtain ⟨g, o, q, r⟩ := W.cel p _ h
  cases r with
  | dK r => exact ⟨_, q, r, g⟩
theorem Wd.ins (W : Wd K F G H S) {p : Addr} {tag : Str} {fs : List (Str × D)} (h : S p = some (.ins tag fs)) : ∃ C dx vs, H p = some (.ins C dx vs) ∧ ClsAt K tag C ∧ FRp K G vs fs ∧ G p = none := by
  obtain ⟨g, o, q, r⟩ := W.cel p _ h
  cases r with
  | ins c r => exact ⟨_, _, _, q, c, r, g⟩
end
/-! ### slots -/
abbrev Rho := List (Option D)
def SR (K : PySem.W.Frag) (G : Hp) : Option V → Option D → Prop
  | _, none => True
  | some v, some d => Rp K G v d
  | none, some _ => False
abbrev ER (K : PySem.W.Frag) (G : Hp) (σ : L2.St) (ρ : Rho) : Prop := Paired (SR K G) σ ρ
section
variable {K : PySem.W.Frag} {G G' : Hp}
theorem SR.mono (e : Ex G G') : ∀ {v : Option V} {d : Option D}, SR K G v d → SR K G' v d
  | _, none, _ => trivial
  | some v, some d, h => Rp.mono e h
  | none, some _, h => h
theorem ER.mono (e : Ex G G') {σ : L2.St} {ρ : Rho} (h : ER K G σ ρ) : ER K G' σ ρ := L2.Paired.mapP h fun _ _ q => SR.mono e q
theorem ER.get : ∀ {σ : L2.St} {ρ : Rho} {i : Nat} {d : D}, ER K G σ ρ → ρ[i]? = some (some d) → ∃ v, σ[i]? = some (some v) ∧ Rp K G v d
  | _, _, _, _, .nil, e => by simp at e
  | _, _, 0, d, .cons (a := a) h _, e => by
    simp at e; subst e
    cases a with
    | none => exact h.elim
    | some v => exact ⟨v, rfl, h⟩
  | _, _, i + 1, d, .cons _ r, e => by
    obtain ⟨v, h1, h2⟩ := ER.get (i := i) r (by simpa using e)
    exact ⟨v, by simpa using h1, h2⟩
theorem ER.set : ∀ {σ : L2.St} {ρ : Rho} (i : Nat) {v : Option V} {d : Option D}, ER K G σ ρ → SR K G v d → ER K G (σ.set i v) (ρ.set i d)
  | _, _, _, _, _, .nil, _ => .nil
  | _, _, 0, _, _, .cons _ r, h => .cons h r
  | _, _, i + 1, _, _, .cons h' r, h => .cons h' (ER.set i r h)
/-- the slots of a comprehension's own names forgotten -/
def wipeD (ρ : Rho) : List Nat → Rho
  | [] => ρ
  | v :: vs => (wipeD ρ vs).set v none
theorem ER.wipe {σ : L2.St} {ρ : Rho} (h : ER K G σ ρ) : ∀ vs : List Nat, ER K G (wipe σ vs) (wipeD ρ vs)
  | [] => h
  | v :: vs => (ER.wipe h vs).set v (v := none) (d := none) trivial
theorem ER.start {vs : List V} {ds : List D} (N : List Str) (r : RpL K G vs ds) : ER K G (L2.start N vs) (ds.map some ++ List.replicate (N.length - ds.length) none) := by
  unfold L2.start
  rw [r.length]
  have h2 : ∀ n, ER K G (List.replicate n none) (List.replicate n none) := fun n => by
    induction n with
    | zero => exact .nil
    | succ n ih => exact .cons trivial ih
  have h1 : ∀ {vs : List V} {ds : List D}, RpL K G vs ds → ∀ {σ ρ}, ER K G σ ρ → ER K G (vs.map some ++ σ) (ds.map some ++ ρ) := by
    intro vs ds r
    induction vs generalizing ds with
    | nil => cases r; exact fun h => h
    | cons v vs ih =>
      cases r with
      | cons h r => exact fun q => .cons h (ih r q)
  exact h1 r (h2 _)
end
end DL
/-! DL2: the judgements; expressions. -/
namespace DL
open PySem L2
abbrev DE := Rho → Sg → (D → Sg → Prop) → Prop
abbrev DT := Rho → Sg → (Bool → Sg → Prop) → Prop
abbrev DA := Rho → Sg → (List D → Sg → Prop) → Prop
abbrev DOp := Sg → D → D → (D → Sg → Prop) → Prop
abbrev DUn := Sg → D → (D → Sg → Prop) → Prop
abbrev DCall := Sg → List D → (D → Sg → Prop) → Prop
/-- what is wanted behind, at the heaps -/
def Post {α β : Type} (K : PySem.W.Frag) (F G : Hp) (R : Hp → α → β → Prop) (P : β → Sg → Prop) (Q : α → Hp → Prop) : Prop :=
  ∀ G' H' S' v d, Ex G G' → Wd K F G' H' S' → R G' v d → P d S' → Q v H'
section
variable {K : PySem.W.Frag} {F G G' H H' : Hp} {S : Sg}
theorem Post.mono {α β : Type} {R : Hp → α → β → Prop} {P : β → Sg → Prop} {Q : α → Hp → Prop} (h : Post K F G R P Q) (e : Ex G G') : Post K F G' R P Q :=
  fun G1 H1 S1 v d e1 W r p => h G1 H1 S1 v d (e.trans e1) W r p
end
def LE (K : PySem.W.Frag) (t : TE) (d : DE) : Prop := ∀ F G H σ ρ S P Q, Wd K F G H S → ER K G σ ρ → d ρ S P → Post K F G (Rp K) P Q → t σ H Q
def LT (K : PySem.W.Frag) (t : TT) (d : DT) : Prop := ∀ F G H σ ρ S P Q, Wd K F G H S → ER K G σ ρ → d ρ S P → Post K F G (fun _ (a b : Bool) => a = b) P Q → t σ H Q
def LA (K : PySem.W.Frag) (t : TA) (d : DA) : Prop := ∀ F G H σ ρ S P Q, Wd K F G H S → ER K G σ ρ → d ρ S P → Post K F G (RpL K) P Q → t σ H Q
/-- a new list is made: behind it stands by, nobody speaks of it yet -/
abbrev DL := Rho → Sg → (List D → Sg → Prop) → Prop
def LL (K : PySem.W.Frag) (t : TE) (d : DL) : Prop := ∀ F G H σ ρ S (P : List D → Sg → Prop) (Q : VK), Wd K F G H S → ER K G σ ρ → d ρ S P →
  (∀ G' H' S' p xs ds, Ex G G' → Wd K F G' H' S' → G' p = none → S' p = none → F p = none → H' p = some (.lst xs) → RpL K G' xs ds → P ds S' → Q (.ref p) H') → t σ H Q
def LO (K : PySem.W.Frag) (r : R2) (f : DOp) : Prop := ∀ F G H S x y a b P Q, Wd K F G H S → Rp K G x a → Rp K G y b → f S a b P → Post K F G (Rp K) P Q → r x y H Q
def LU (K : PySem.W.Frag) (r : V → Hp → VK → Prop) (f : DUn) : Prop := ∀ F G H S x a P Q, Wd K F G H S → Rp K G x a → f S a P → Post K F G (Rp K) P Q → r x H Q
def LC (K : PySem.W.Frag) (r : List V → Hp → VK → Prop) (f : DCall) : Prop := ∀ F G H S xs ds P Q, Wd K F G H S → RpL K G xs ds → f S ds P → Post K F G (Rp K) P Q → r xs H Q
structure JE (X : Cx) (e : Expr) (t : TE) (d : DE) : Prop where
  p : PE X e t
  l : LE X.K t d
structure JT (X : Cx) (e : Expr) (t : TT) (d : DT) : Prop where
  p : PT X e t
  l : LT X.K t d
/-- and, or, not as tests -/
structure JW (X : Cx) (e : Expr) (t : TT) (d : DT) : Prop where
  p : PW X e t
  l : LT X.K t d
structure JA (X : Cx) (es : List Expr) (t : TA) (d : DA) : Prop where
  p : PA X es t
  l : LA X.K t d
structure JL (X : Cx) (e : Expr) (t : TE) (d : DL) : Prop where
  p : PE X e t
  l : LL X.K t d
/-! ### the data-level readings -/
def dVar (i : Nat) : DE := fun ρ S P => ∃ x, ρ[i]? = some (some x) ∧ P x S
def dC (x : D) : DE := fun _ S P => P x S
def dOp (f : DOp) (da db : DE) : DE := fun ρ S P => da ρ S fun x S1 => db ρ S1 fun y S2 => f S2 x y P
def dUn (f : DUn) (da : DE) : DE := fun ρ S P => da ρ S fun x S1 => f S1 x P
def dChain (f g : DOp) (da db dc : DE) : DE := fun ρ S P => da ρ S fun x S1 => db ρ S1 fun y S2 => f S2 x y fun z S3 => ∃ k, z = .bl k ∧ if k = true then dc ρ S3 fun u S4 => g S4 y u P else P (.bl false) S3
def dAndV (da db : DE) : DE := fun ρ S P => da ρ S fun x S1 => ∃ c, x = .bl c ∧ if c = true then db ρ S1 P else P (.bl false) S1
def dOrV (da db : DE) : DE := fun ρ S P => da ρ S fun x S1 => ∃ c, x = .bl c ∧ if c = true then P (.bl true) S1 else db ρ S1 P
def dNotV (da : DE) : DE := fun ρ S P => da ρ S fun x S1 => ∃ c, x = .bl c ∧ P (.bl (!c)) S1
def dIf (t : DT) (da db : DE) : DE := fun ρ S P => t ρ S fun c S1 => if c = true then da ρ S1 P else db ρ S1 P
def dT (da : DE) : DT := fun ρ S P => da ρ S fun x S1 => ∃ c, x = .bl c ∧ P c S1
def dAnd (t u : DT) : DT := fun ρ S P => t ρ S fun c S1 => if c = true then u ρ S1 P else P false S1
def dOr (t u : DT) : DT := fun ρ S P => t ρ S fun c S1 => if c = true then P true S1 else u ρ S1 P
def dNot (t : DT) : DT := fun ρ S P => t ρ S fun c S1 => P (!c) S1
def dNil : DA := fun _ S P => P [] S
def dCons (da : DE) (dr : DA) : DA := fun ρ S P => da ρ S fun x S1 => dr ρ S1 fun xs S2 => P (x :: xs) S2
def dTup (da : DA) : DE := fun ρ S P => da ρ S fun xs S1 => xs.length ≤ sizeLine ∧ P (.tup xs) S1
def dLst (da : DA) : DL := fun ρ S P => da ρ S fun xs S1 => xs.length ≤ sizeLine ∧ P xs S1
/-- a new list as a value; as a cell -/
def dVal (d : DL) : DE := fun ρ S P => d ρ S fun xs S1 => P (.lst xs) S1
def dCell (d : DL) : DE := fun ρ S P => d ρ S fun xs S1 => ∀ p, S1 p = none → P (.ref p) (put S1 p (.lst xs))
def dCB (f : DCall) (da : DA) : DE := fun ρ S P => da ρ S fun xs S1 => f S1 xs P
section
variable {X : Cx} {e a b c : Expr} {es : List Expr} {ta tb tc te : TE} {da db dc de : DE} {tt tu : TT} {dt du : DT} {pos : Pos}
theorem le_var {K : PySem.W.Frag} (i : Nat) : LE K (tVar i) (dVar i) := fun F G H σ ρ S P Q W E h post => by
  obtain ⟨x, e, h⟩ := h
  obtain ⟨v, e', r⟩ := E.get e
  exact ⟨v, e', post G H S v x (Ex.refl G) W r h⟩
theorem je_var (i : Nat) {x : Str} (hN : X.N[i]? = some x := by rfl) (hv : Vis X.env.scope x := by first | exact Or.inl rfl | exact Or.inr (Or.inl rfl) | exact Or.inr (Or.inr rfl)) (hd : (x == ("__debug__" : Str)) = false := by decide)
    (hcd : (x == ("__classdict__" : Str)) = false := by decide) : JE X (.Name x pos) (tVar i) (dVar i) := ⟨pe_var hN hv hd hcd, le_var i⟩
theorem le_c {K : PySem.W.Frag} {v : V} {x : D} (r : ∀ G, Rp K G v x) : LE K (tC v) (dC x) := fun F G H σ ρ S P Q W E h post => post G H S v x (Ex.refl G) W (r G) h
theorem je_int {i j pos} : JE X (.Constant (.int i) j pos) (tC (.int i)) (dC (.int i)) := ⟨pe_int, le_c fun _ => .int i⟩
theorem je_bl {i j pos} : JE X (.Constant (.bool i) j pos) (tC (.bl i)) (dC (.bl i)) := ⟨pe_bl, le_c fun _ => .bl i⟩
theorem je_non {j pos} : JE X (.Constant .none j pos) (tC .non) (dC .non) := ⟨pe_non, le_c fun _ => .non⟩
theorem je_str {x j pos} : JE X (.Constant (.str x) j pos) (tC (.str x)) (dC (.str x)) := ⟨pe_str, le_c fun _ => .str x⟩
/-- a constant of the module that is data -/
structure GlobD (K : PySem.W.Frag) (mg : Str → Option Value) (x : Str) (d : D) : Prop where
  ex : ∃ u v, mg x = some u ∧ RelV v u ∧ ∀ G, Rp K G v d
theorem PE.weak {t' : TE} (h : PE X e te) (w : ∀ σ H Q, t' σ H Q → te σ H Q) : PE X e t' := ⟨fun pins s σ H Q I q => h.run pins s σ H Q I (w σ H Q q)⟩
def tGl (mg : Str → Option Value) (x : Str) : TE := fun _ H Q => ∀ u v, mg x = some u → RelV v u → Q v H
theorem je_glob {K : PySem.W.Frag} {mg : Str → Option Value} {x : Str} {d : D} (hg : Gl X x) (h : GlobD K mg x d) (hK : X.K = K := by rfl) (hmg : X.mg = mg := by rfl) (hd : (x == ("__debug__" : Str)) = false := by decide) : JE X (.Name x pos) (tGl mg x) (dC d) := by
  subst hK hmg
  obtain ⟨u, v, hm, r, q⟩ := h.ex
  refine ⟨PE.weak (pe_glob hg hm r hd) fun σ H Q h => h u v hm r, fun F G H σ ρ S P Q W E h post u' v' hm' r' => ?_⟩
  rw [hm] at hm'
  cases hm'
  rw [r'.inj r]
  exact post G H S v d (Ex.refl G) W (q G) h
theorem Post.eqB {K : PySem.W.Frag} {F G : Hp} {P : Bool → Sg → Prop} {Q : Bool → Hp → Prop} (h : Post K F G (fun _ (a b : Bool) => a = b) P Q) {G' H' : Hp} {S' : Sg} {b : Bool} (e : Ex G G') (W : Wd K F G' H' S') (p : P b S') : Q b H' := h G' H' S' b b e W rfl p
theorem je_op {op : Operator} {r : R2} {f : DOp} (ho : OpR X (binaryOp op) r) (lo : LO X.K r f) (ha : JE X a ta da) (hb : JE X b tb db) : JE X (.BinOp a op b pos) (tOp r ta tb) (dOp f da db) :=
  ⟨pe_op ho ha.p hb.p, fun F G H σ ρ S P Q W E h post => ha.l F G H σ ρ S _ _ W E h fun G1 H1 S1 v x e1 W1 r1 h1 =>
    hb.l F G1 H1 σ ρ S1 _ _ W1 (E.mono e1) h1 fun G2 H2 S2 u y e2 W2 r2 h2 => lo F G2 H2 S2 v u x y _ _ W2 (r1.mono e2) r2 h2 (post.mono (e1.trans e2))⟩
theorem je_un {op : UnaryOp} {r : V → Hp → VK → Prop} {f : DUn} (ho : UnR X (unaryOp op) r) (lo : LU X.K r f) (ha : JE X a ta da) : JE X (.UnaryOp op a pos) (tUn r ta) (dUn f da) :=
  ⟨pe_un ho ha.p, fun F G H σ ρ S P Q W E h post => ha.l F G H σ ρ S _ _ W E h fun G1 H1 S1 v x e1 W1 r1 h1 => lo F G1 H1 S1 v x _ _ W1 r1 h1 (post.mono e1)⟩
theorem je_cmp {op : CmpOp} {r : R2} {f : DOp} (ho : OpR X (compareOp op) r) (lo : LO X.K r f) (ha : JE X a ta da) (hb : JE X b tb db) (hm : behindInMarks op b = false) : JE X (.Compare a [op] [b] pos) (tOp r ta tb) (dOp f da db) :=
  ⟨pe_cmpR ho ha.p hb.p hm, fun F G H σ ρ S P Q W E h post => ha.l F G H σ ρ S _ _ W E h fun G1 H1 S1 v x e1 W1 r1 h1 =>
    hb.l F G1 H1 σ ρ S1 _ _ W1 (E.mono e1) h1 fun G2 H2 S2 u y e2 W2 r2 h2 => lo F G2 H2 S2 v u x y _ _ W2 (r1.mono e2) r2 h2 (post.mono (e1.trans e2))⟩
theorem je_chain {op op' : CmpOp} {r r' : R2} {f f' : DOp} (ho : OpR X (compareOp op) r) (lo : LO X.K r f) (ho' : OpR X (compareOp op') r') (lo' : LO X.K r' f') (ha : JE X a ta da) (hb : JE X b tb db) (hc : JE X c tc dc) (hm : lastMarks [op, op'] [b, c] = false := by with_unfolding_all rfl) :
    JE X (.Compare a [op, op'] [b, c] pos) (tChain r r' ta tb tc) (dChain f f' da db dc) :=
  ⟨pe_chain ho ho' ha.p hb.p hc.p hm, fun F G H σ ρ S P Q W E h post => ha.l F G H σ ρ S _ _ W E h fun G1 H1 S1 v x e1 W1 r1 h1 =>
    hb.l F G1 H1 σ ρ S1 _ _ W1 (E.mono e1) h1 fun G2 H2 S2 u y e2 W2 r2 h2 => lo F G2 H2 S2 v u x y _ _ W2 (r1.mono e2) r2 h2 fun G3 H3 S3 z dz e3 W3 r3 h3 => by
      obtain ⟨k, ez, h3⟩ := h3
      subst ez
      cases r3
      refine ⟨k, rfl, ?_⟩
      cases k with
      | true =>
        rw [if_pos rfl] at h3 ⊢
        exact hc.l F G3 H3 σ ρ S3 _ _ W3 (E.mono ((e1.trans e2).trans e3)) h3 fun G4 H4 S4 u4 y4 e4 W4 r4 h4 => lo' F G4 H4 S4 u u4 y y4 _ _ W4 (r2.mono (e3.trans e4)) r4 h4 (post.mono (((e1.trans e2).trans e3).trans e4))
      | false =>
        rw [if_neg Bool.false_ne_true] at h3 ⊢
        exact post G3 H3 S3 _ _ ((e1.trans e2).trans e3) W3 (.bl false) h3⟩
theorem je_and {rest : List Expr} (ha : JE X a ta da) (hb : JE X (.BoolOp .And (b :: rest) pos) tb db) : JE X (.BoolOp .And (a :: b :: rest) pos) (tAndV ta tb) (dAndV da db) :=
  ⟨pe_and ha.p hb.p, fun F G H σ ρ S P Q W E h post => ha.l F G H σ ρ S _ _ W E h fun G1 H1 S1 v x e1 W1 r1 h1 => by
    obtain ⟨k, ez, h1⟩ := h1
    subst ez
    cases r1
    refine ⟨k, rfl, ?_⟩
    cases k with
    | true =>
      rw [if_pos rfl] at h1 ⊢
      exact hb.l F G1 H1 σ ρ S1 _ _ W1 (E.mono e1) h1 (post.mono e1)
    | false =>
      rw [if_neg Bool.false_ne_true] at h1 ⊢
      exact post G1 H1 S1 _ _ e1 W1 (.bl false) h1⟩
theorem je_or {rest : List Expr} (ha : JE X a ta da) (hb : JE X (.BoolOp .Or (b :: rest) pos) tb db) : JE X (.BoolOp .Or (a :: b :: rest) pos) (tOrV ta tb) (dOrV da db) :=
  ⟨pe_or ha.p hb.p, fun F G H σ ρ S P Q W E h post => ha.l F G H σ ρ S _ _ W E h fun G1 H1 S1 v x e1 W1 r1 h1 => by
    obtain ⟨k, ez, h1⟩ := h1
    subst ez
    cases r1
    refine ⟨k, rfl, ?_⟩
    cases k with
    | true =>
      rw [if_pos rfl] at h1 ⊢
      exact post G1 H1 S1 _ _ e1 W1 (.bl true) h1
    | false =>
      rw [if_neg Bool.false_ne_true] at h1 ⊢
      exact hb.l F G1 H1 σ ρ S1 _ _ W1 (E.mono e1) h1 (post.mono e1)⟩
theorem je_one {op : BoolOp} (ha : JE X a ta da) : JE X (.BoolOp op [a] pos) ta da := ⟨pe_one ha.p, ha.l⟩
theorem je_not (ha : JE X a ta da) : JE X (.UnaryOp .Not a pos) (tNotV ta) (dNotV da) :=
  ⟨pe_not ha.p, fun F G H σ ρ S P Q W E h post => ha.l F G H σ ρ S _ _ W E h fun G1 H1 S1 v x e1 W1 r1 h1 => by
    obtain ⟨k, ez, h1⟩ := h1
    subst ez
    cases r1
    exact ⟨k, rfl, post G1 H1 S1 _ _ e1 W1 (.bl _) h1⟩⟩
theorem je_ifExp (hc : JT X c tt dt) (ha : JE X a ta da) (hb : JE X b tb db) : JE X (.IfExp c a b pos) (tIf tt ta tb) (dIf dt da db) :=
  ⟨pe_ifExp hc.p ha.p hb.p, fun F G H σ ρ S P Q W E h post => hc.l F G H σ ρ S _ _ W E h fun G1 H1 S1 v x e1 W1 r1 h1 => by
    subst r1
    cases v with
    | true =>
      rw [if_pos rfl] at h1 ⊢
      exact ha.l F G1 H1 σ ρ S1 _ _ W1 (E.mono e1) h1 (post.mono e1)
    | false =>
      rw [if_neg Bool.false_ne_true] at h1 ⊢
      exact hb.l F G1 H1 σ ρ S1 _ _ W1 (E.mono e1) h1 (post.mono e1)⟩
/-! ### tests -/
theorem lt_of {K : PySem.W.Frag} (ha : LE K ta da) : LT K (tB ta) (dT da) := fun F G H σ ρ S P Q W E h post => ha F G H σ ρ S _ _ W E h fun G1 H1 S1 v x e1 W1 r1 h1 => by
  obtain ⟨k, ez, h1⟩ := h1
  subst ez
  cases r1
  exact ⟨k, rfl, post G1 H1 S1 _ _ e1 W1 rfl h1⟩
theorem jt_cmp {op : CmpOp} {r : R2} {f : DOp} (ho : OpR X (compareOp op) r) (lo : LO X.K r f) (ha : JE X a ta da) (hb : JE X b tb db) (hm : behindInMarks op b = false) : JT X (.Compare a [op] [b] pos) (tTest (tOp r ta tb)) (dT (dOp f da db)) :=
  ⟨pt_cmpR ho ha.p hb.p hm, lt_of (je_cmp (pos := pos) ho lo ha hb hm).l⟩
theorem jt_chain {op op' : CmpOp} {r r' : R2} {f f' : DOp} (ho : OpR X (compareOp op) r) (lo : LO X.K r f) (ho' : OpR X (compareOp op') r') (lo' : LO X.K r' f') (ha : JE X a ta da) (hb : JE X b tb db) (hc : JE X c tc dc) (hm : lastMarks [op, op'] [b, c] = false := by with_unfolding_all rfl) :
    JT X (.Compare a [op, op'] [b, c] pos) (tTest (tChain r r' ta tb tc)) (dT (dChain f f' da db dc)) := ⟨pt_chain ho ho' ha.p hb.p hc.p hm, lt_of (je_chain (pos := pos) ho lo ho' lo' ha hb hc hm).l⟩
theorem JW.t (h : JW X e tt dt) : JT X e tt dt := ⟨h.p.pt, h.l⟩
theorem jw_and1 (ha : JT X a tt dt) : JW X (.BoolOp .And [a] pos) tt dt := ⟨pw_and1 ha.p, ha.l⟩
theorem jw_or1 (ha : JT X a tt dt) : JW X (.BoolOp .Or [a] pos) tt dt := ⟨pw_or1 ha.p, ha.l⟩
theorem jw_and {rest : List Expr} (ha : JT X a tt dt) (hb : JW X (.BoolOp .And (b :: rest) pos) tu du) : JW X (.BoolOp .And (a :: b :: rest) pos) (tAnd tt tu) (dAnd dt du) :=
  ⟨pw_and ha.p hb.p, fun F G H σ ρ S P Q W E h post => ha.l F G H σ ρ S _ _ W E h fun G1 H1 S1 v x e1 W1 r1 h1 => by
    subst r1
    cases v with
    | true =>
      rw [if_pos rfl] at h1 ⊢
      exact hb.l F G1 H1 σ ρ S1 _ _ W1 (E.mono e1) h1 (post.mono e1)
    | false =>
      rw [if_neg Bool.false_ne_true] at h1 ⊢
      exact post G1 H1 S1 _ _ e1 W1 rfl h1⟩
theorem jw_or {rest : List Expr} (ha : JT X a tt dt) (hb : JW X (.BoolOp .Or (b :: rest) pos) tu du) : JW X (.BoolOp .Or (a :: b :: rest) pos) (tOr tt tu) (dOr dt du) :=
  ⟨pw_or ha.p hb.p, fun F G H σ ρ S P Q W E h post => ha.l F G H σ ρ S _ _ W E h fun G1 H1 S1 v x e1 W1 r1 h1 => by
    subst r1
    cases v with
    | true =>
      rw [if_pos rfl] at h1 ⊢
      exact post G1 H1 S1 _ _ e1 W1 rfl h1
    | false =>
      rw [if_neg Bool.false_ne_true] at h1 ⊢
      exact hb.l F G1 H1 σ ρ S1 _ _ W1 (E.mono e1) h1 (post.mono e1)⟩
theorem jt_not (ha : JT X a tt dt) : JT X (.UnaryOp .Not a pos) (tNot tt) (dNot dt) :=
  ⟨pt_not ha.p, fun F G H σ ρ S P Q W E h post => ha.l F G H σ ρ S _ _ W E h fun G1 H1 S1 v x e1 W1 r1 h1 => by
    subst r1
    exact post G1 H1 S1 _ _ e1 W1 rfl h1⟩
/-! ### arguments, displays -/
theorem ja_nil : JA X [] tNil dNil := ⟨pa_nil, fun F G H σ ρ S P Q W E h post => post G H S _ _ (Ex.refl G) W .nil h⟩
theorem ja_cons {tr : TA} {dr : DA} (ha : JE X e ta da) (hr : JA X es tr dr) (hs : starEach (e :: es) X.env = (false, eval e X.env) :: starEach es X.env := by rfl) : JA X (e :: es) (tCons ta tr) (dCons da dr) :=
  ⟨pa_cons ha.p hr.p hs, fun F G H σ ρ S P Q W E h post => ha.l F G H σ ρ S _ _ W E h fun G1 H1 S1 v x e1 W1 r1 h1 =>
    hr.l F G1 H1 σ ρ S1 _ _ W1 (E.mono e1) h1 fun G2 H2 S2 vs xs e2 W2 r2 h2 => post G2 H2 S2 _ _ (e1.trans e2) W2 (.cons (r1.mono e2) r2) h2⟩
theorem je_tup {x1} {tr : TA} {dr : DA} (h : JA X es tr dr) : JE X (.Tuple es x1 pos) (tTup tr) (dTup dr) :=
  ⟨pe_tup h.p, fun F G H σ ρ S P Q W E q post => h.l F G H σ ρ S _ _ W E q fun G1 H1 S1 vs xs e1 W1 r1 h1 =>
    ⟨by rw [r1.length]; exact h1.1, fun p hp => post _ _ S1 _ _ (e1.trans (Ex.new (W1.freeG hp))) (W1.newG hp) (.tup (st_of upd_same) (r1.mono (Ex.new (W1.freeG hp)))) h1.2⟩⟩
theorem jl_lst {tr : TA} {dr : DA} (h : JA X es tr dr) : JL X (.List es pos) (tLst tr) (dLst dr) :=
  ⟨pe_lst h.p, fun F G H σ ρ S P Q W E q post => h.l F G H σ ρ S _ _ W E q fun G1 H1 S1 vs xs e1 W1 r1 h1 =>
    ⟨by rw [r1.length]; exact h1.1, fun p hp => post G1 _ S1 p vs xs e1 (W1.newH hp) (W1.freeG hp) (W1.free hp) (W1.freeF hp) upd_same r1 h1.2⟩⟩
theorem LL.val {K : PySem.W.Frag} {d : DL} (h : LL K ta d) : LE K ta (dVal d) := fun F G H σ ρ S P Q W E q post => h F G H σ ρ S _ Q W E q fun G1 H1 S1 p xs ds e1 W1 g s f hp r k =>
  post (upd G1 p (.lst xs)) H1 S1 _ _ (e1.trans (Ex.new g)) (W1.own hp g s f) (.lst upd_same (r.mono (Ex.new g))) k
theorem LL.cell {K : PySem.W.Frag} {d : DL} (h : LL K ta d) : LE K ta (dCell d) := fun F G H σ ρ S P Q W E q post => h F G H σ ρ S _ Q W E q fun G1 H1 S1 p xs ds e1 W1 g s f hp r k =>
  post G1 H1 (put S1 p (.lst ds)) _ _ e1 (W1.cell hp g f (.lst r)) (.ref p) (k p s)
theorem JL.vl {d : DL} (h : JL X e te d) : JE X e te (dVal d) := ⟨h.p, h.l.val⟩
theorem JL.cl {d : DL} (h : JL X e te d) : JE X e te (dCell d) := ⟨h.p, h.l.cell⟩
/-! ### calls of built-ins -/
theorem je_callB {id : String} {x : Str} {p : Pos} {r : List V → Hp → VK → Prop} {f : DCall} {tr : TA} {dr : DA} (hc : CallR X (.builtin id) r) (lc : LC X.K r f) (hg : Gl X x) (hm : X.mg x = none) (hv : bootBuiltins x = some (.builtin id)) (ha : JA X (e :: es) tr dr)
    (hn : x ≠ "__name__" := by decide) (hd : (x == ("__debug__" : Str)) = false := by decide) (he : starEach (e :: es) X.env = (false, eval e X.env) :: starEach es X.env := by rfl) (hpl : (backTo pos (starEach es X.env)).any (·.1) = false := by rfl) : JE X (.Call (.Name x p) (e :: es) [] pos) (tCB r tr) (dCB f dr) :=
  ⟨pe_callB hc hg hm hv ha.p hn hd he hpl, fun F G H σ ρ S P Q W E h post => ha.l F G H σ ρ S _ _ W E h fun G1 H1 S1 vs xs e1 W1 r1 h1 => lc F G1 H1 S1 vs xs _ _ W1 r1 h1 (post.mono e1)⟩
theorem je_callTy {T : String} {x : Str} {p : Pos} {r : List V → Hp → VK → Prop} {f : DCall} {tr : TA} {dr : DA} (hc : CallR X (.type T) r) (lc : LC X.K r f) (hg : Gl X x) (hm : X.mg x = none) (hv : bootBuiltins x = some (.type T)) (ha : JA X (e :: es) tr dr)
    (hn : x ≠ "__name__" := by decide) (hd : (x == ("__debug__" : Str)) = false := by decide) (he : starEach (e :: es) X.env = (false, eval e X.env) :: starEach es X.env := by rfl) (hpl : (backTo pos (starEach es X.env)).any (·.1) = false := by rfl) : JE X (.Call (.Name x p) (e :: es) [] pos) (tCB r tr) (dCB f dr) :=
  ⟨pe_callTy hc hg hm hv ha.p hn hd he hpl, fun F G H σ ρ S P Q W E h post => ha.l F G H σ ρ S _ _ W E h fun G1 H1 S1 vs xs e1 W1 r1 h1 => lc F G1 H1 S1 vs xs _ _ W1 r1 h1 (post.mono e1)⟩
end
end DL
/-! DL3: operators, subscripts, built-in functions. -/
namespace DL
open PySem L2 PySem.Spec PyProof.Rows
/-- the items of a list, a tuple, the script -/
def seqOf (S : Sg) : D → Option (List D)
  | .tup ds => some ds
  | .lst ds => some ds
  | .frz ds => some ds
  | .ref p => match S p with
    | some (.lst ds) => some ds
    | _ => none
  | _ => none
/-- the items of a list (no tuple, not the script) -/
def lstOf (S : Sg) : D → Option (List D)
  | .lst ds => some ds
  | .ref p => match S p with
    | some (.lst ds) => some ds
    | _ => none
  | _ => none
/-- data at an address become data -/
def datOf (S : Sg) : D → Option D
  | .ref p => match S p with
    | some (.lst ds) => some (.lst ds)
    | _ => none
  | x => some x
section
variable {K : PySem.W.Frag} {F G H : Hp} {S : Sg}
theorem seq_rp (W : Wd K F G H S) {v : V} {x : D} {ds : List D} (r : Rp K G v x) (h : seqOf S x = some ds) : ∃ p xs, v = .ref p ∧ (SqL K H p xs ∨ SqT K H p xs) ∧ RpL K G xs ds := by
  cases r with
  | non => cases h
  | bl => cases h
  | int => cases h
  | str => cases h
  | tup q r => cases h; exact ⟨_, _, rfl, .inr (W.sub.t q), r⟩
  | lst q r => cases h; exact ⟨_, _, rfl, .inl (sq_of (W.sub _ _ q)), r⟩
  | frz q r => cases h; exact ⟨_, _, rfl, .inl (W.sub.l q), r⟩
  | ref p =>
    simp only [seqOf] at h
    split at h
    · rename_i es e
      cases h
      obtain ⟨xs, q, r, _⟩ := W.lst e
      exact ⟨_, _, rfl, .inl (sq_of q), r⟩
    · cases h
theorem lst_rp (W : Wd K F G H S) {v : V} {x : D} {ds : List D} (r : Rp K G v x) (h : lstOf S x = some ds) : ∃ p xs, v = .ref p ∧ H p = some (.lst xs) ∧ RpL K G xs ds := by
  cases r with
  | non => cases h
  | bl => cases h
  | int => cases h
  | str => cases h
  | tup => cases h
  | lst q r => cases h; exact ⟨_, _, rfl, W.sub _ _ q, r⟩
  | frz => cases h
  | ref p =>
    simp only [lstOf] at h
    split at h
    · rename_i es e
      cases h
      obtain ⟨xs, q, r, _⟩ := W.lst e
      exact ⟨_, _, rfl, q, r⟩
    · cases h
theorem dat_rp (W : Wd K F G H S) {v : V} {x d : D} (r : Rp K G v x) (h : datOf S x = some d) (hd : d.plain = true) : Dp K H v d.py := by
  have k : ∀ {x : D}, Rp K G v x → some x = some d → Dp K H v d.py := fun {x} r e => by
    cases e
    exact r.dp W.sub hd
  cases r with
  | non => exact k .non h
  | bl b => exact k (.bl b) h
  | int i => exact k (.int i) h
  | str x => exact k (.str x) h
  | tup q r => exact k (.tup q r) h
  | lst q r => exact k (.lst q r) h
  | frz q r => exact k (.frz q r) h
  | ref p =>
    simp only [datOf] at h
    split at h
    · rename_i es e
      cases h
      obtain ⟨xs, q, r, _⟩ := W.lst e
      rw [D.py]
      exact .lst (sq_of q) (r.dp W.sub (by simpa [D.plain] using hd))
    · cases h
/-! ### operators -/
def subP : DOp := fun S a b P => match a, b with | .int i, .int j => P (.int (i - j)) S | _, _ => False
def mulP : DOp := fun S a b P => match a, b with | .int i, .int j => ((-(2 ^ 64) < i ∧ i < 2 ^ 64) ∨ (-(2 ^ 64) < j ∧ j < 2 ^ 64)) ∧ P (.int (i * j)) S | _, _ => False
def fdivP : DOp := fun S a b P => match a, b with | .int i, .int j => (0 < j ∧ j < 1073741824) ∧ P (.int (i / j)) S | _, _ => False
def modP : DOp := fun S a b P => match a, b with | .int i, .int j => 0 < j ∧ P (.int (i % j)) S | _, _ => False
def powP : DOp := fun S a b P => match a, b with | .int i, .int j => (0 ≤ j ∧ j ≤ 1000000 ∧ i.natAbs < 2 ^ 64) ∧ P (.int (i ^ j.toNat)) S | _, _ => False
def shlP : DOp := fun S a b P => match a, b with | .int i, .int j => (0 ≤ j ∧ j ≤ 1000000 ∧ i.natAbs < 2 ^ 64) ∧ P (.int (i * 2 ^ j.toNat)) S | _, _ => False
def shrP : DOp := fun S a b P => match a, b with | .int i, .int j => 0 ≤ j ∧ P (.int (i / 2 ^ j.toNat)) S | _, _ => False
def andP : DOp := fun S a b P => match a, b with | .int i, .int j => P (.int (Builtin.bitAnd i j)) S | _, _ => False
def orP : DOp := fun S a b P => match a, b with | .int i, .int j => P (.int (Builtin.bitOr i j)) S | _, _ => False
def xorP : DOp := fun S a b P => match a, b with | .int i, .int j => P (.int (Builtin.bitXor i j)) S | _, _ => False
def addP : DOp := fun S a b P => match a, b with
  | .int i, .int j => P (.int (i + j)) S
  | .int i, .bl k => P (.int (i + (if k then 1 else 0))) S
  | .str x, .str y => x.length + y.length ≤ sizeLine ∧ P (.str (x ++ y)) S
  | .tup xs, .tup ys => xs.length + ys.length ≤ sizeLine ∧ P (.tup (xs ++ ys)) S
  | x, y => ∃ xs ys, lstOf S x = some xs ∧ lstOf S y = some ys ∧ xs.length + ys.length ≤ sizeLine ∧ P (.lst (xs ++ ys)) S
def lessP : DOp := fun S a b P => match a, b with | .int i, .int j => P (.bl (decide (i < j))) S | _, _ => False
def leP : DOp := fun S a b P => match a, b with | .int i, .int j => P (.bl (decide (i ≤ j))) S | _, _ => False
def gtP : DOp := fun S a b P => match a, b with | .int i, .int j => P (.bl (decide (j < i))) S | _, _ => False
def geP : DOp := fun S a b P => match a, b with | .int i, .int j => P (.bl (decide (j ≤ i))) S | _, _ => False
def eqP : DOp := fun S a b P => match a, b with
  | .int i, .int j => P (.bl (decide (i = j))) S
  | .str x, .str y => P (.bl (decide (x = y))) S
  | .bl x, .bl y => P (.bl (decide (x = y))) S
  | .non, .non => P (.bl true) S
  | x, y => ∃ d e, datOf S x = some d ∧ datOf S y = some e ∧ d.ok = true ∧ e.ok = true ∧ P (.bl (decide (d = e))) S
def neP : DOp := fun S a b P => eqP S a b fun x S1 => ∃ k, x = .bl k ∧ P (.bl (!k)) S1
def D.isNon : D → Bool
  | .non => true
  | _ => false
def isNP : DOp := fun S a b P => b = .non ∧ P (.bl a.isNon) S
def notNP : DOp := fun S a b P => b = .non ∧ P (.bl (!a.isNon)) S
def isBP : DOp := fun S a b P => match a, b with | .bl x, .bl y => P (.bl (decide (x = y))) S | _, _ => False
def notBP : DOp := fun S a b P => match a, b with | .bl x, .bl y => P (.bl (!decide (x = y))) S | _, _ => False
def negP : DUn := fun S a P => match a with | .int i => P (.int (-i)) S | _ => False
def invP : DUn := fun S a P => match a with | .int i => P (.int (Builtin.bitNot i)) S | _ => False
theorem lo_I {C : Int → Int → Prop} {g : Int → Int → V} {g' : Int → Int → D} {f : DOp} (hf : ∀ S a b P, f S a b P → ∃ i j, a = .int i ∧ b = .int j ∧ C i j ∧ P (g' i j) S) (hg : ∀ G i j, Rp K G (g i j) (g' i j)) : LO K (rI C g) f := fun F G H S x y a b P Q W rx ry h post => by
  obtain ⟨i, j, rfl, rfl, c, h2⟩ := hf S a b P h
  cases rx
  cases ry
  exact ⟨i, j, rfl, rfl, c, post G H S _ _ (Ex.refl G) W (hg G i j) h2⟩
theorem lo_I0 {g : Int → Int → V} {g' : Int → Int → D} {f : DOp} (hf : ∀ S a b P, f S a b P → ∃ i j, a = .int i ∧ b = .int j ∧ P (g' i j) S) (hg : ∀ G i j, Rp K G (g i j) (g' i j)) : LO K (rI0 g) f := fun F G H S x y a b P Q W rx ry h post => by
  obtain ⟨i, j, rfl, rfl, h2⟩ := hf S a b P h
  cases rx
  cases ry
  exact ⟨i, j, rfl, rfl, post G H S _ _ (Ex.refl G) W (hg G i j) h2⟩
theorem lo_sub : LO K (rI0 fun i j => .int (i - j)) subP := lo_I0 (g' := fun i j => .int (i - j)) (fun S a b P h => by unfold subP at h; split at h; exact ⟨_, _, rfl, rfl, h⟩; exact h.elim) fun _ _ _ => .int _
theorem lo_mul : LO K (rI CMul fun i j => .int (i * j)) mulP := lo_I (g' := fun i j => .int (i * j)) (fun S a b P h => by unfold mulP at h; split at h; exact ⟨_, _, rfl, rfl, h.1, h.2⟩; exact h.elim) fun _ _ _ => .int _
theorem lo_fdiv : LO K (rI CDiv fun i j => .int (i / j)) fdivP := lo_I (g' := fun i j => .int (i / j)) (fun S a b P h => by unfold fdivP at h; split at h; exact ⟨_, _, rfl, rfl, h.1, h.2⟩; exact h.elim) fun _ _ _ => .int _
theorem lo_mod : LO K (rI (fun _ j => 0 < j) fun i j => .int (i % j)) modP := lo_I (g' := fun i j => .int (i % j)) (fun S a b P h => by unfold modP at h; split at h; exact ⟨_, _, rfl, rfl, h.1, h.2⟩; exact h.elim) fun _ _ _ => .int _
theorem lo_pow : LO K (rI CPow fun i j => .int (i ^ j.toNat)) powP := lo_I (g' := fun i j => .int (i ^ j.toNat)) (fun S a b P h => by unfold powP at h; split at h; exact ⟨_, _, rfl, rfl, h.1, h.2⟩; exact h.elim) fun _ _ _ => .int _
theorem lo_shl : LO K (rI CPow fun i j => .int (i * 2 ^ j.toNat)) shlP := lo_I (g' := fun i j => .int (i * 2 ^ j.toNat)) (fun S a b P h => by unfold shlP at h; split at h; exact ⟨_, _, rfl, rfl, h.1, h.2⟩; exact h.elim) fun _ _ _ => .int _
theorem lo_shr : LO K (rI (fun _ j => 0 ≤ j) fun i j => .int (i / 2 ^ j.toNat)) shrP := lo_I (g' := fun i j => .int (i / 2 ^ j.toNat)) (fun S a b P h => by unfold shrP at h; split at h; exact ⟨_, _, rfl, rfl, h.1, h.2⟩; exact h.elim) fun _ _ _ => .int _
theorem lo_and : LO K (rI0 fun i j => .int (Builtin.bitAnd i j)) andP := lo_I0 (g' := fun i j => .int (Builtin.bitAnd i j)) (fun S a b P h => by unfold andP at h; split at h; exact ⟨_, _, rfl, rfl, h⟩; exact h.elim) fun _ _ _ => .int _
theorem lo_or : LO K (rI0 fun i j => .int (Builtin.bitOr i j)) orP := lo_I0 (g' := fun i j => .int (Builtin.bitOr i j)) (fun S a b P h => by unfold orP at h; split at h; exact ⟨_, _, rfl, rfl, h⟩; exact h.elim) fun _ _ _ => .int _
theorem lo_xor : LO K (rI0 fun i j => .int (Builtin.bitXor i j)) xorP := lo_I0 (g' := fun i j => .int (Builtin.bitXor i j)) (fun S a b P h => by unfold xorP at h; split at h; exact ⟨_, _, rfl, rfl, h⟩; exact h.elim) fun _ _ _ => .int _
theorem lo_lt : LO K (rI0 fun i j => .bl (decide (i < j))) lessP := lo_I0 (g' := fun i j => .bl (decide (i < j))) (fun S a b P h => by unfold lessP at h; split at h; exact ⟨_, _, rfl, rfl, h⟩; exact h.elim) fun _ _ _ => .bl _
theorem lo_le : LO K (rI0 fun i j => .bl (decide (i ≤ j))) leP := lo_I0 (g' := fun i j => .bl (decide (i ≤ j))) (fun S a b P h => by unfold leP at h; split at h; exact ⟨_, _, rfl, rfl, h⟩; exact h.elim) fun _ _ _ => .bl _
theorem lo_gt : LO K (rI0 fun i j => .bl (decide (j < i))) gtP := lo_I0 (g' := fun i j => .bl (decide (j < i))) (fun S a b P h => by unfold gtP at h; split at h; exact ⟨_, _, rfl, rfl, h⟩; exact h.elim) fun _ _ _ => .bl _
theorem lo_ge : LO K (rI0 fun i j => .bl (decide (j ≤ i))) geP := lo_I0 (g' := fun i j => .bl (decide (j ≤ i))) (fun S a b P h => by unfold geP at h; split at h; exact ⟨_, _, rfl, rfl, h⟩; exact h.elim) fun _ _ _ => .bl _
/-- a union of rules -/
abbrev rOr (r r' : R2) : R2 := fun x y H Q => r x y H Q ∨ r' x y H Q
abbrev rAddS : R2 := fun x y H Q => ∃ i j, x = .str i ∧ y = .str j ∧ i.length + j.length ≤ sizeLine ∧ Q (.str (i ++ j)) H
abbrev rAddB : R2 := fun x y H Q => ∃ i k, x = .int i ∧ y = .bl k ∧ Q (.int (i + b2i k)) H
abbrev rAddU (K : PySem.W.Frag) : R2 := rOr (rI0 fun i j => .int (i + j)) (rOr rAddB (rOr rAddS (rOr (rCatA K) rCat)))
theorem op_addU {X : Cx} {K : PySem.W.Frag} (hK : X.K = K := by rfl) : OpR X (binaryOp .Add) (rAddU K) := by
  subst hK
  exact op_add.or (op_add_ib.or (op_add_str.or (op_catA.or op_cat)))
theorem lo_add : LO K (rAddU K) addP := fun F G H S x y a b P Q W rx ry h post => by
  unfold addP at h
  split at h
  · cases rx; cases ry
    exact .inl ⟨_, _, rfl, rfl, post G H S _ _ (Ex.refl G) W (.int _) h⟩
  · rename_i i k
    cases rx; cases ry
    refine .inr (.inl ⟨_, _, rfl, rfl, post G H S _ _ (Ex.refl G) W ?_ h⟩)
    have e : b2i k = if k then 1 else 0 := by cases k <;> rfl
    rw [e]
    exact .int _
  · cases rx; cases ry
    exact .inr (.inr (.inl ⟨_, _, rfl, rfl, h.1, post G H S _ _ (Ex.refl G) W (.str _) h.2⟩))
  · rename_i ds es
    cases rx with
    | tup q r =>
      rename_i a xs
      cases ry with
      | tup q' r' =>
        rename_i b ys
        refine .inr (.inr (.inr (.inl ⟨a, b, xs, ys, rfl, rfl, W.sub.t q, W.sub.t q', by rw [r.length, r'.length]; exact h.1, fun e => ?_, fun _ e => ?_, fun _ _ p hp => ?_⟩)))
        · subst e
          cases r
          exact post G H S _ _ (Ex.refl G) W (.tup q' r') h.2
        · subst e
          cases r'
          have h2 := h.2
          rw [List.append_nil] at h2
          exact post G H S _ _ (Ex.refl G) W (.tup q r) h2
        · exact post _ _ S _ _ (Ex.new (W.freeG hp)) (W.newG hp) (.tup (st_of upd_same) ((r.append r').mono (Ex.new (W.freeG hp)))) h.2
  · obtain ⟨xs, ys, e1, e2, hl, h⟩ := h
    obtain ⟨p, us, rfl, hp, rp⟩ := lst_rp W rx e1
    obtain ⟨q, ws, rfl, hq, rq⟩ := lst_rp W ry e2
    refine .inr (.inr (.inr (.inr ⟨p, q, us, ws, rfl, rfl, hp, hq, by rw [rp.length, rq.length]; exact hl, fun l hl => ?_⟩)))
    exact post _ _ S _ _ (Ex.new (W.freeG hl)) (W.newG hl) (.lst upd_same ((rp.append rq).mono (Ex.new (W.freeG hl)))) h
/-- a list + a list as a new list -/
def dCat (da db : DE) : DL := fun ρ S P => da ρ S fun x S1 => db ρ S1 fun y S2 => ∃ xs ys, lstOf S2 x = some xs ∧ lstOf S2 y = some ys ∧ xs.length + ys.length ≤ sizeLine ∧ P (xs ++ ys) S2
def dRep (da db : DE) : DL := fun ρ S P => da ρ S fun x S1 => db ρ S1 fun y S2 => ∃ xs n, lstOf S2 x = some xs ∧ y = .int n ∧ -(2 ^ 63) ≤ n ∧ n < 2 ^ 63 ∧ xs.length * n.toNat ≤ sizeLine ∧ P (List.replicate n.toNat xs).flatten S2
theorem RpL.rep {G : Hp} {xs : List V} {ds : List D} (r : RpL K G xs ds) : ∀ n : Nat, RpL K G (List.replicate n xs).flatten (List.replicate n ds).flatten
  | 0 => .nil
  | n + 1 => by
    rw [List.replicate_succ, List.replicate_succ, List.flatten_cons, List.flatten_cons]
    exact r.append (RpL.rep r n)
abbrev rEqU (K : PySem.W.Frag) : R2 := rOr rEq (rEqD K)
theorem op_eqU {X : Cx} {K : PySem.W.Frag} {k : Nat} (hr : Room k X.A) (hK : X.K = K := by rfl) : OpR X (compareOp .Eq) (rEqU K) := by
  subst hK
  exact op_eq.or (op_eqD hr.units)
abbrev rNeU (K : PySem.W.Frag) : R2 := rOr rNe (rNeD K)
theorem op_neU {X : Cx} {K : PySem.W.Frag} {k : Nat} (hr : Room k X.A) (hK : X.K = K := by rfl) : OpR X (compareOp .NotEq) (rNeU K) := by
  subst hK
  exact op_ne.or (op_neD hr.units)
/-- what eqP says, at the values -/
theorem eq_cases (W : Wd K F G H S) {x y : V} {a b : D} {P : D → Sg → Prop} (rx : Rp K G x a) (ry : Rp K G y b) (h : eqP S a b P) :
    ∃ k, P (.bl k) S ∧ ((scal x y = true ∧ decide (x = y) = k) ∨ ∃ d e, Dp K H x d ∧ Dp K H y e ∧ SeqAt.shaped d = true ∧ SeqAt.shaped e = true ∧ PyData.eqv d e = k) := by
  unfold eqP at h
  split at h
  · cases rx; cases ry
    exact ⟨_, h, .inl ⟨rfl, by simp⟩⟩
  · cases rx; cases ry
    exact ⟨_, h, .inl ⟨rfl, by simp⟩⟩
  · cases rx; cases ry
    exact ⟨_, h, .inl ⟨rfl, by simp⟩⟩
  · cases rx; cases ry
    exact ⟨_, h, .inl ⟨rfl, by simp⟩⟩
  · obtain ⟨d, e, e1, e2, o1, o2, h⟩ := h
    refine ⟨_, h, .inr ⟨d.py, e.py, dat_rp W rx e1 (D.ok_plain o1), dat_rp W ry e2 (D.ok_plain o2), D.ok_shaped o1, D.ok_shaped o2, ?_⟩⟩
    rw [D.eqv_py d e (D.ok_plain o1) (D.ok_plain o2), D.beq_dec]
theorem lo_eq : LO K (rEqU K) eqP := fun F G H S x y a b P Q W rx ry h post => by
  obtain ⟨k, h, c⟩ := eq_cases W rx ry h
  rcases c with ⟨c1, c2⟩ | ⟨d, e, d1, d2, s1, s2, c⟩
  · refine .inl ⟨c1, ?_⟩
    rw [c2]
    exact post G H S _ _ (Ex.refl G) W (.bl k) h
  · refine .inr ⟨d, e, d1, d2, s1, s2, ?_⟩
    rw [c]
    exact post G H S _ _ (Ex.refl G) W (.bl k) h
theorem lo_ne : LO K (rNeU K) neP := fun F G H S x y a b P Q W rx ry h post => by
  obtain ⟨k, h, c⟩ := eq_cases W rx ry h
  obtain ⟨k', e, h⟩ := h
  cases e
  rcases c with ⟨c1, c2⟩ | ⟨d, e, d1, d2, s1, s2, c⟩
  · refine .inl ⟨c1, ?_⟩
    rw [c2]
    exact post G H S _ _ (Ex.refl G) W (.bl _) h
  · refine .inr ⟨d, e, d1, d2, s1, s2, ?_⟩
    rw [c]
    exact post G H S _ _ (Ex.refl G) W (.bl _) h
theorem isNon_rp {v : V} {d : D} (r : Rp K G v d) : decide (v = .non) = d.isNon := by
  cases r <;> simp [D.isNon]
theorem lo_isN : LO K (fun x y H Q => y = .non ∧ Q (.bl (decide (x = .non))) H) isNP := fun F G H S x y a b P Q W rx ry h post => by
  obtain ⟨e, h⟩ := h
  subst e
  cases ry
  refine ⟨rfl, ?_⟩
  rw [isNon_rp rx]
  exact post G H S _ _ (Ex.refl G) W (.bl _) h
theorem lo_notN : LO K (fun x y H Q => y = .non ∧ Q (.bl (!decide (x = .non))) H) notNP := fun F G H S x y a b P Q W rx ry h post => by
  obtain ⟨e, h⟩ := h
  subst e
  cases ry
  refine ⟨rfl, ?_⟩
  rw [isNon_rp rx]
  exact post G H S _ _ (Ex.refl G) W (.bl _) h
theorem lo_neg : LU K (rU fun i => .int (-i)) negP := fun F G H S x a P Q W rx h post => by
  unfold negP at h
  split at h
  · cases rx
    exact ⟨_, rfl, post G H S _ _ (Ex.refl G) W (.int _) h⟩
  · exact h.elim
theorem lo_inv : LU K (rU fun i => .int (Builtin.bitNot i)) invP := fun F G H S x a P Q W rx h post => by
  unfold invP at h
  split at h
  · cases rx
    exact ⟨_, rfl, post G H S _ _ (Ex.refl G) W (.int _) h⟩
  · exact h.elim
/-! ### dicts with int and text keys: by data -/
def keyD : D → Option Key
  | .int i => some (.inl i)
  | .str x => some (.inr x)
  | _ => none
theorem keyD_rp {v : V} {d : D} {k : Key} (r : Rp K G v d) (h : keyD d = some k) : v = kV k := by
  cases r <;> cases h <;> rfl
def valD {κ : Type} [DecidableEq κ] (kvs : List (κ × D)) (k : κ) : Option D := (kvs.find? fun kv => decide (kv.1 = k)).map (·.2)
theorem valD_rp {κ : Type} [DecidableEq κ] {kvs : List (κ × V)} {kds : List (κ × D)} (r : KRp K G kvs kds) (k : κ) : (valD kds k = none ∧ valV kvs k = none) ∨ ∃ d v, valD kds k = some d ∧ valV kvs k = some v ∧ Rp K G v d := by
  induction r with
  | nil => exact .inl ⟨rfl, rfl⟩
  | cons h t ih =>
    rename_i a b l1 l2
    unfold valD valV at ih ⊢
    by_cases e : a.1 = k
    · have e' : b.1 = k := h.1 ▸ e
      refine .inr ⟨b.2, a.2, ?_, ?_, h.2⟩
      · rw [List.find?_cons_of_pos (by simpa using e')]; rfl
      · rw [List.find?_cons_of_pos (by simpa using e)]; rfl
    · have e' : ¬ b.1 = k := h.1 ▸ e
      rw [List.find?_cons_of_neg (by simpa using e'), List.find?_cons_of_neg (by simpa using e)]
      exact ih
/-! ### in -/
def inP : DOp := fun S a b P => match b with
  | .str z => ∃ c, a = .str ⟨#[c]⟩ ∧ P (.bl (decide (c ∈ z.cps.toList))) S
  | .ref p => match S p with
    | some (.dK kvs) => ∃ k, keyD a = some k ∧ P (.bl (valD kvs k).isSome) S
    | some (.lst ds) => a.ok = true ∧ (D.lst ds).ok = true ∧ P (.bl (decide (a ∈ ds))) S
    | _ => False
  | .lst ds => a.ok = true ∧ (D.lst ds).ok = true ∧ P (.bl (decide (a ∈ ds))) S
  | _ => False
def notinP : DOp := fun S a b P => inP S a b fun x S1 => ∃ k, x = .bl k ∧ P (.bl (!k)) S1
theorem any_eqv {ds : List D} {a : D} (ha : a.ok = true) (hd : (D.lst ds).ok = true) : ((D.pyL ds).any fun z => PyData.eqv z a.py) = decide (a ∈ ds) := by
  have hp : ∀ d ∈ ds, d.plain = true := by
    have := D.ok_plain hd
    simp [D.plain, D.plainL_all] at this
    exact this
  rw [D.pyL_map]
  induction ds with
  | nil => simp
  | cons d ds ih =>
    have h1 := D.eqv_py d a (hp d (by simp)) (D.ok_plain ha)
    rw [List.map_cons, List.any_cons, h1, D.beq_dec]
    have hd' : (D.lst ds).ok = true := by
      unfold D.ok at hd ⊢
      simp [D.plain, D.plainL, D.dep, D.depL] at hd ⊢
      refine ⟨hd.1.2, ?_⟩
      have := hd.2
      have h2 := Nat.le_max_right d.dep (D.depL ds)
      omega
    rw [ih hd' fun x hx => hp x (by simp [hx])]
    by_cases e : d = a
    · simp [e]
    · have e' : ¬ a = d := fun q => e q.symm
      simp [e, e']
theorem ixR_dict {X : Cx} (hu : X.A.units + 1 < cLine) : IxR X (fun x y H Q => ∃ a v, x = .ref a ∧ DGet H a y (some v) ∧ Q v H) := by
  intro value slice pins s σ H x y v u Q I rx ry h hs
  obtain ⟨a, w, rfl, g, q⟩ := h
  obtain rfl : v = Value.ref a := rx
  have hT := dict_typeIs I g
  unfold subscriptTail
  refine wpAny_bind ?_
  rw [getitemInPython_of_ne hT.not_modules]
  refine wpAny_bind (wpAny_specialOf hT PySem.F.slot_dict_getitem.lookup ?_)
  have fin : wpAny (model X.prog X.w) X.A (subscripted slice false (.ref a) u) (fun r s₃ => wpAny (model X.prog X.w) X.A (letTemporaryGo value (.ref a) r >>= fun _ => pure r) (EP X pins σ Q) X.xe s₃) X.xe s := by
    rw [hs]
    exact wpAny_operating (d_getItem hu I g ry fun w' s3 I3 rw' => wpAny_bind (wpAny_letTemporaryGo (wpAny_pure ⟨w, H, I3, rw', q⟩)))
  first
    | exact wpAny_pure (wpAny_bind fin)
    | exact wpAny_bind (wpAny_pure (wpAny_bind fin))
    | exact wpAny_bind fin
end
end DL
/-! DL4: in, subscripts, slices, attributes, calls of defs, methods, classes. -/
namespace DL
open PySem L2 PySem.Spec PyProof.Rows
def D.flat : D → Bool
  | .non => true
  | .int _ => true
  | .str _ => true
  | _ => false
section
variable {K : PySem.W.Frag} {F G H : Hp} {S : Sg}
theorem flat_V {v : V} {d : D} (r : Rp K G v d) (h : d.flat = true) : flatV v = true := by
  cases r <;> first | rfl | (simp [D.flat] at h)
theorem flat_eq {v u : V} {d e : D} (r : Rp K G v d) (q : Rp K G u e) (h : d.flat = true) (h' : e.flat = true) : eqV v u = decide (d = e) := by
  cases r <;> cases q <;> simp [D.flat, eqV] at h h' ⊢ <;> rfl
theorem flat_in {vs : List V} {ds : List D} {u : V} {e : D} (r : RpL K G vs ds) (q : Rp K G u e) (h : ds.all D.flat = true) (h' : e.flat = true) : vs.all flatV = true ∧ inV u vs = decide (e ∈ ds) := by
  unfold inV
  induction ds generalizing vs with
  | nil => cases r; simp
  | cons d ds ih =>
    cases r with
    | cons a r =>
      simp only [List.all_cons, Bool.and_eq_true] at h
      obtain ⟨h1, h2⟩ := ih r h.2
      refine ⟨by simp only [List.all_cons, Bool.and_eq_true]; exact ⟨flat_V a h.1, h1⟩, ?_⟩
      rw [List.any_cons, h2, flat_eq a q h.1 h']
      by_cases z : d = e
      · simp [z]
      · have z' : ¬ e = d := fun w => z w.symm
        simp [z, z']
/-- in a tuple of flat things besides -/
def inU : DOp := fun S a b P => match b with
  | .tup ds => a.flat = true ∧ ds.all D.flat = true ∧ P (.bl (decide (a ∈ ds))) S
  | _ => inP S a b P
def notinU : DOp := fun S a b P => inU S a b fun x S1 => ∃ k, x = .bl k ∧ P (.bl (!k)) S1
abbrev rInS (neg : Bool) : R2 := fun x y H Q => ∃ (c : Nat) (z : Str), x = .str ⟨#[c]⟩ ∧ y = .str z ∧ Q (.bl (if neg then !decide (c ∈ z.cps.toList) else decide (c ∈ z.cps.toList))) H
abbrev rInK (neg : Bool) : R2 := fun x y H Q => ∃ a o, y = .ref a ∧ DGet H a x o ∧ Q (.bl (if neg then !o.isSome else o.isSome)) H
abbrev rInDn (K : PySem.W.Frag) (neg : Bool) : R2 := fun x y H Q => ∃ d ds, Dp K H x d ∧ Dp K H y (.list ds) ∧ SeqAt.shaped d = true ∧ SeqAt.shaped (.list ds) = true ∧ Q (.bl (if neg then !ds.any fun z => PyData.eqv z d else ds.any fun z => PyData.eqv z d)) H
abbrev rInU (K : PySem.W.Frag) (neg : Bool) : R2 := rOr (rInS neg) (rOr (rInK neg) (rOr (rInDn K neg) (rIn K neg)))
theorem op_inK {X : Cx} (hu : X.A.units + 1 < cLine) : OpR X (compareOp .In) (rInK false) := by
  intro pins s σ H x y v u Q I rx ry h
  obtain ⟨a, o, rfl, g, q⟩ := h
  obtain rfl : u = Value.ref a := ry
  exact d_in hu I g rx fun s3 I3 => ⟨.bl o.isSome, H, I3, rfl, q⟩
theorem op_notInK {X : Cx} (hu : X.A.units + 1 < cLine) : OpR X (compareOp .NotIn) (rInK true) := by
  intro pins s σ H x y v u Q I rx ry h
  obtain ⟨a, o, rfl, g, q⟩ := h
  obtain rfl : u = Value.ref a := ry
  exact d_notIn hu I g rx fun s3 I3 => ⟨.bl (!o.isSome), H, I3, rfl, q⟩
theorem op_inU {X : Cx} {K : PySem.W.Frag} {k : Nat} (hr : Room k X.A) (hK : X.K = K := by rfl) : OpR X (compareOp .In) (rInU K false) := by
  subst hK
  exact op_in_sign.or ((op_inK (hu_of hr)).or ((op_inD (by have := hr.un; omega)).or op_in_seq))
theorem op_notInU {X : Cx} {K : PySem.W.Frag} {k : Nat} (hr : Room k X.A) (hK : X.K = K := by rfl) : OpR X (compareOp .NotIn) (rInU K true) := by
  subst hK
  exact op_notIn_sign.or ((op_notInK (hu_of hr)).or ((op_notInD (by have := hr.un; omega)).or op_notIn_seq))
/-- what inU says, at the values -/
theorem in_cases (W : Wd K F G H S) {x y : V} {a b : D} {P : D → Sg → Prop} (rx : Rp K G x a) (ry : Rp K G y b) (h : inU S a b P) :
    ∃ k, P (.bl k) S ∧ ((∃ (c : Nat) (z : Str), x = .str ⟨#[c]⟩ ∧ y = .str z ∧ decide (c ∈ z.cps.toList) = k) ∨ (∃ p o, y = .ref p ∧ DGet H p x o ∧ o.isSome = k) ∨
      (∃ d ds, Dp K H x d ∧ Dp K H y (.list ds) ∧ SeqAt.shaped d = true ∧ SeqAt.shaped (.list ds) = true ∧ (ds.any fun z => PyData.eqv z d) = k) ∨
      ∃ p xs, y = .ref p ∧ (SqL K H p xs ∨ SqT K H p xs) ∧ flatV x = true ∧ xs.all flatV = true ∧ inV x xs = k) := by
  unfold inU at h
  split at h
  · rename_i ds
    obtain ⟨h1, h2, h⟩ := h
    cases ry with
    | tup q r =>
      obtain ⟨g1, g2⟩ := flat_in r rx h2 h1
      exact ⟨_, h, .inr (.inr (.inr ⟨_, _, rfl, .inr (W.sub.t q), flat_V rx h1, g1, g2⟩))⟩
  · unfold inP at h
    split at h
    · obtain ⟨c, rfl, h⟩ := h
      cases rx; cases ry
      exact ⟨_, h, .inl ⟨c, _, rfl, rfl, rfl⟩⟩
    · rename_i p _
      split at h
      · rename_i kvs e
        obtain ⟨k, hk, h⟩ := h
        obtain ⟨kv, q, r, _⟩ := W.dK e
        have ex := keyD_rp rx hk
        cases ry
        refine ⟨_, h, .inr (.inl ⟨p, valV kv k, rfl, by rw [ex]; exact DGet.k q, ?_⟩)⟩
        rcases valD_rp r k with ⟨a1, a2⟩ | ⟨d, v, a1, a2, _⟩ <;> rw [a1, a2] <;> rfl
      · rename_i ds e
        obtain ⟨h1, h2, h⟩ := h
        have hy := dat_rp (d := .lst ds) W ry (by simp only [datOf]; rw [e]) (D.ok_plain h2)
        rw [D.py] at hy
        have hs := D.ok_shaped h2
        rw [D.py] at hs
        have hx := rx.dp W.sub (D.ok_plain h1)
        exact ⟨_, h, .inr (.inr (.inl ⟨a.py, D.pyL ds, hx, hy, D.ok_shaped h1, hs, any_eqv h1 h2⟩))⟩
      · exact h.elim
    · rename_i ds _
      obtain ⟨h1, h2, h⟩ := h
      have hy := ry.dp W.sub (D.ok_plain h2)
      rw [D.py] at hy
      have hs := D.ok_shaped h2
      rw [D.py] at hs
      have hx := rx.dp W.sub (D.ok_plain h1)
      exact ⟨_, h, .inr (.inr (.inl ⟨a.py, D.pyL ds, hx, hy, D.ok_shaped h1, hs, any_eqv h1 h2⟩))⟩
    · exact h.elim
theorem lo_in : LO K (rInU K false) inU := fun F G H S x y a b P Q W rx ry h post => by
  obtain ⟨k, h, c⟩ := in_cases W rx ry h
  have fin := post G H S _ _ (Ex.refl G) W (.bl k) h
  rcases c with ⟨c, z, e1, e2, e⟩ | ⟨p, o, e1, g, e⟩ | ⟨d, ds, d1, d2, s1, s2, e⟩ | ⟨p, xs, e1, q, f1, f2, e⟩
  · exact .inl ⟨c, z, e1, e2, by rw [e]; exact fin⟩
  · exact .inr (.inl ⟨p, o, e1, g, by rw [e]; exact fin⟩)
  · exact .inr (.inr (.inl ⟨d, ds, d1, d2, s1, s2, by rw [e]; exact fin⟩))
  · exact .inr (.inr (.inr ⟨p, xs, e1, q, f1, f2, by rw [e]; exact fin⟩))
theorem lo_notin : LO K (rInU K true) notinU := fun F G H S x y a b P Q W rx ry h post => by
  obtain ⟨k, h, c⟩ := in_cases W rx ry h
  obtain ⟨k', e', h⟩ := h
  cases e'
  have fin := post G H S _ _ (Ex.refl G) W (.bl (!k)) h
  rcases c with ⟨c, z, e1, e2, e⟩ | ⟨p, o, e1, g, e⟩ | ⟨d, ds, d1, d2, s1, s2, e⟩ | ⟨p, xs, e1, q, f1, f2, e⟩
  · exact .inl ⟨c, z, e1, e2, by rw [e]; exact fin⟩
  · exact .inr (.inl ⟨p, o, e1, g, by rw [e]; exact fin⟩)
  · exact .inr (.inr (.inl ⟨d, ds, d1, d2, s1, s2, by rw [e]; exact fin⟩))
  · exact .inr (.inr (.inr ⟨p, xs, e1, q, f1, f2, by rw [e]; exact fin⟩))
/-! ### subscripts -/
def ixP : DOp := fun S a b P => match a with
  | .str z => ∃ i c, b = .int i ∧ z.length ≤ sizeLine ∧ atI z.cps.toList i = some c ∧ P (.str ⟨#[c]⟩) S
  | .ref p => match S p with
    | some (.dK kvs) => ∃ k d, keyD b = some k ∧ valD kvs k = some d ∧ P d S
    | some (.lst ds) => ∃ i d, b = .int i ∧ atI ds i = some d ∧ P d S
    | _ => False
  | .tup ds => ∃ i d, b = .int i ∧ atI ds i = some d ∧ P d S
  | .lst ds => ∃ i d, b = .int i ∧ atI ds i = some d ∧ P d S
  | .frz ds => ∃ i d, b = .int i ∧ atI ds i = some d ∧ P d S
  | _ => False
abbrev rIxU (K : PySem.W.Frag) : R2 := rOr (rIx K) (fun x y H Q => ∃ a v, x = .ref a ∧ DGet H a y (some v) ∧ Q v H)
theorem ix_U {X : Cx} {k : Nat} (hr : Room k X.A) : IxR X (rIxU X.K) := ix_seq.or (ixR_dict (hu_of hr))
theorem atI_rp {vs : List V} {ds : List D} {i : Int} {d : D} (r : RpL K G vs ds) (h : atI ds i = some d) : ∃ v, atI vs i = some v ∧ Rp K G v d := by
  unfold atI at h ⊢
  rw [r.length]
  cases e : ixN ds.length i with
  | none => rw [e] at h; cases h
  | some j =>
    rw [e] at h
    exact r.get h
theorem lo_ix : LO K (rIxU K) ixP := fun F G H S x y a b P Q W rx ry h post => by
  have seq : ∀ {ds : List D}, seqOf S a = some ds → (∃ i d, b = .int i ∧ atI ds i = some d ∧ P d S) → rIxU K x y H Q := fun {ds} e ⟨i, d, eb, ea, hp⟩ => by
    subst eb
    cases ry
    obtain ⟨p, xs, rfl, q, r⟩ := seq_rp W rx e
    obtain ⟨v, e2, r2⟩ := atI_rp r ea
    have fin := post G H S _ _ (Ex.refl G) W r2 hp
    rcases q with q | q
    · exact .inl (.inl ⟨p, xs, i, v, rfl, rfl, q, e2, fin⟩)
    · exact .inl (.inr (.inl ⟨p, xs, i, v, rfl, rfl, q, e2, fin⟩))
  unfold ixP at h
  split at h
  · obtain ⟨i, c, rfl, hl, e, h⟩ := h
    cases rx; cases ry
    exact .inl (.inr (.inr ⟨_, i, c, rfl, rfl, hl, e, post G H S _ _ (Ex.refl G) W (.str _) h⟩))
  · rename_i p
    split at h
    · rename_i kvs e
      obtain ⟨k, d, ek, ev, h⟩ := h
      obtain ⟨kv, q, r, _⟩ := W.dK e
      have ey := keyD_rp ry ek
      cases rx
      rcases valD_rp r k with ⟨a1, _⟩ | ⟨d', v, a1, a2, rr⟩
      · rw [a1] at ev; cases ev
      · rw [a1] at ev; cases ev
        exact .inr ⟨p, v, rfl, by rw [ey, ← a2]; exact DGet.k q, post G H S _ _ (Ex.refl G) W rr h⟩
    · rename_i ds e
      exact seq (ds := ds) (by simp only [seqOf]; rw [e]) h
    · exact h.elim
  · exact seq rfl h
  · exact seq rfl h
  · exact seq rfl h
  · exact h.elim
theorem je_ix {X : Cx} {K : PySem.W.Frag} {a b : Expr} {ta tb : TE} {da db : DE} {pos : Pos} {k : Nat} (hr : Room k X.A) (ha : JE X a ta da) (hb : JE X b tb db) (hs : PlainIx b) (hK : X.K = K := by rfl) : JE X (.Subscript a b pos) (tOp (rIxU K) ta tb) (dOp ixP da db) := by
  subst hK
  exact ⟨pe_ix (ix_U hr) ha.p hb.p hs, fun F G H σ ρ S P Q W E h post => ha.l F G H σ ρ S _ _ W E h fun G1 H1 S1 v x e1 W1 r1 h1 =>
    hb.l F G1 H1 σ ρ S1 _ _ W1 (E.mono e1) h1 fun G2 H2 S2 u y e2 W2 r2 h2 => lo_ix F G2 H2 S2 v u x y _ _ W2 (r1.mono e2) r2 h2 (post.mono (e1.trans e2))⟩
/-! ### slices -/
abbrev DO := Rho → Sg → (Option Int → Sg → Prop) → Prop
def LOpt (K : PySem.W.Frag) (t : TO) (d : DO) : Prop := ∀ F G H σ ρ S P (Q : Option Int → Hp → Prop), Wd K F G H S → ER K G σ ρ → d ρ S P → (∀ G' H' S' o, Ex G G' → Wd K F G' H' S' → P o S' → Q o H') → t σ H Q
structure JO (X : Cx) (o : Option Expr) (t : TO) (d : DO) : Prop where
  p : PO X o t
  l : LOpt X.K t d
def dNoPart : DO := fun _ S P => P none S
def dPart (da : DE) : DO := fun ρ S P => da ρ S fun x S1 => ∃ i, x = .int i ∧ P (some i) S1
theorem jo_none {X : Cx} : JO X none tNoPart dNoPart := ⟨po_none, fun F G H σ ρ S P Q W E h post => post G H S none (Ex.refl G) W h⟩
theorem jo_some {X : Cx} {e : Expr} {te : TE} {de : DE} (h : JE X e te de) : JO X (some e) (tPart te) (dPart de) := ⟨po_some h.p, fun F G H σ ρ S P Q W E q post => h.l F G H σ ρ S _ _ W E q fun G1 H1 S1 v x e1 W1 r1 h1 => by
  obtain ⟨i, rfl, h1⟩ := h1
  cases r1
  exact ⟨i, rfl, post G1 H1 S1 _ e1 W1 h1⟩⟩
def cutD {α : Type} (xs : List α) (lo hi : Option Int) : List α := (xs.drop (HT.sIx xs.length 0 lo)).take (HT.sIx xs.length xs.length hi - HT.sIx xs.length 0 lo)
theorem RpL.cut {vs : List V} {ds : List D} (r : RpL K G vs ds) (lo hi : Option Int) : RpL K G (cutV vs lo hi) (cutD ds lo hi) := by
  unfold cutV cutD
  rw [r.length]
  exact (r.drop _).take _
theorem cut_all {α : Type} {xs : List α} {lo hi : Option Int} (h : HT.sIx xs.length 0 lo = 0 ∧ HT.sIx xs.length xs.length hi = xs.length) : cutD xs lo hi = xs := by
  unfold cutD
  rw [h.1, h.2]
  simp
/-- a slice as a value -/
def slP : Sg → D → Option Int → Option Int → (D → Sg → Prop) → Prop := fun S x lo hi P => match x with
  | .str z => z.length ≤ sizeLine ∧ P (.str (cutS z lo hi)) S
  | .tup ds => P (.tup (cutD ds lo hi)) S
  | x => ∃ ds, lstOf S x = some ds ∧ P (.lst (cutD ds lo hi)) S
def dSl (da : DE) (dl dh : DO) : DE := fun ρ S P => da ρ S fun x S1 => dl ρ S1 fun lo S2 => dh ρ S2 fun hi S3 => slP S3 x lo hi P
/-- a slice of a list as a new list -/
def dSlL (da : DE) (dl dh : DO) : DL := fun ρ S P => da ρ S fun x S1 => dl ρ S1 fun lo S2 => dh ρ S2 fun hi S3 => ∃ ds, lstOf S3 x = some ds ∧ P (cutD ds lo hi) S3
abbrev rSlU (K : PySem.W.Frag) : V → Option Int → Option Int → Hp → VK → Prop := fun x lo hi H Q => rSlA K x lo hi H Q ∨ rSlL K x lo hi H Q ∨ rSlS x lo hi H Q
theorem sl_U {X : Cx} : SlR X (rSlU X.K) := sl_tupA.or (sl_list.or sl_str)
theorem je_slice {X : Cx} {K : PySem.W.Frag} {e : Expr} {te : TE} {de : DE} {lo hi : Option Expr} {tl th : TO} {dl dh : DO} {p2 pos : Pos} (he : JE X e te de) (hl : JO X lo tl dl) (hu : JO X hi th dh) (hK : X.K = K := by rfl) : JE X (.Subscript e (.Slice lo hi none p2) pos) (tSl (rSlU K) te tl th) (dSl de dl dh) := by
  subst hK
  exact ⟨pe_slice sl_U he.p hl.p hu.p, fun F G H σ ρ S P Q W E h post => he.l F G H σ ρ S _ _ W E h fun G1 H1 S1 v x e1 W1 r1 h1 =>
    hl.l F G1 H1 σ ρ S1 _ _ W1 (E.mono e1) h1 fun G2 H2 S2 lo e2 W2 h2 => hu.l F G2 H2 σ ρ S2 _ _ W2 (E.mono (e1.trans e2)) h2 fun G3 H3 S3 hi e3 W3 h3 => by
      have r3 := r1.mono (e2.trans e3)
      have post3 := post.mono ((e1.trans e2).trans e3)
      unfold slP at h3
      split at h3
      · cases r3
        exact .inr (.inr ⟨_, rfl, h3.1, post3 G3 H3 S3 _ _ (Ex.refl G3) W3 (.str _) h3.2⟩)
      · rename_i ds
        cases r3 with
        | tup q r =>
          refine .inl ⟨_, _, rfl, W3.sub.t q, fun z => ?_, fun _ p hp => ?_⟩
          · rw [r.length] at z
            rw [cut_all z] at h3
            exact post3 G3 H3 S3 _ _ (Ex.refl G3) W3 (.tup q r) h3
          · exact post3 _ _ S3 _ _ (Ex.new (W3.freeG hp)) (W3.newG hp) (.tup (st_of upd_same) ((r.cut lo hi).mono (Ex.new (W3.freeG hp)))) h3
      · obtain ⟨ds, ed, h3⟩ := h3
        obtain ⟨a, xs, rfl, ha, r⟩ := lst_rp W3 r3 ed
        exact .inr (.inl ⟨a, xs, rfl, sq_of ha, fun p hp => post3 _ _ S3 _ _ (Ex.new (W3.freeG hp)) (W3.newG hp) (.lst upd_same ((r.cut lo hi).mono (Ex.new (W3.freeG hp)))) h3⟩)⟩
theorem jl_slice {X : Cx} {K : PySem.W.Frag} {e : Expr} {te : TE} {de : DE} {lo hi : Option Expr} {tl th : TO} {dl dh : DO} {p2 pos : Pos} (he : JE X e te de) (hl : JO X lo tl dl) (hu : JO X hi th dh) (hK : X.K = K := by rfl) : JL X (.Subscript e (.Slice lo hi none p2) pos) (tSl (rSlU K) te tl th) (dSlL de dl dh) := by
  subst hK
  exact ⟨pe_slice sl_U he.p hl.p hu.p, fun F G H σ ρ S P Q W E h post => he.l F G H σ ρ S _ _ W E h fun G1 H1 S1 v x e1 W1 r1 h1 =>
    hl.l F G1 H1 σ ρ S1 _ _ W1 (E.mono e1) h1 fun G2 H2 S2 lo e2 W2 h2 => hu.l F G2 H2 σ ρ S2 _ _ W2 (E.mono (e1.trans e2)) h2 fun G3 H3 S3 hi e3 W3 h3 => by
      have r3 := r1.mono (e2.trans e3)
      obtain ⟨ds, ed, h3⟩ := h3
      obtain ⟨a, xs, rfl, ha, r⟩ := lst_rp W3 r3 ed
      exact .inr (.inl ⟨a, xs, rfl, sq_of ha, fun p hp => post G3 _ S3 p _ _ ((e1.trans e2).trans e3) (W3.newH hp) (W3.freeG hp) (W3.free hp) (W3.freeF hp) upd_same (r.cut lo hi) h3⟩)⟩
theorem jl_cat {X : Cx} {a b : Expr} {ta tb : TE} {da db : DE} {pos : Pos} (ha : JE X a ta da) (hb : JE X b tb db) : JL X (.BinOp a .Add b pos) (tOp rCat ta tb) (dCat da db) :=
  ⟨pe_op op_cat ha.p hb.p, fun F G H σ ρ S P Q W E h post => ha.l F G H σ ρ S _ _ W E h fun G1 H1 S1 v x e1 W1 r1 h1 =>
    hb.l F G1 H1 σ ρ S1 _ _ W1 (E.mono e1) h1 fun G2 H2 S2 u y e2 W2 r2 h2 => by
      obtain ⟨xs, ys, q1, q2, hl, h2⟩ := h2
      obtain ⟨p, us, rfl, hp, rp⟩ := lst_rp W2 (r1.mono e2) q1
      obtain ⟨q, ws, rfl, hq, rq⟩ := lst_rp W2 r2 q2
      exact ⟨p, q, us, ws, rfl, rfl, hp, hq, by rw [rp.length, rq.length]; exact hl, fun l hl => post G2 _ S2 l _ _ (e1.trans e2) (W2.newH hl) (W2.freeG hl) (W2.free hl) (W2.freeF hl) upd_same (rp.append rq) h2⟩⟩
theorem jl_rep {X : Cx} {a b : Expr} {ta tb : TE} {da db : DE} {pos : Pos} (ha : JE X a ta da) (hb : JE X b tb db) : JL X (.BinOp a .Mult b pos) (tOp rRep ta tb) (dRep da db) :=
  ⟨pe_op op_rep ha.p hb.p, fun F G H σ ρ S P Q W E h post => ha.l F G H σ ρ S _ _ W E h fun G1 H1 S1 v x e1 W1 r1 h1 =>
    hb.l F G1 H1 σ ρ S1 _ _ W1 (E.mono e1) h1 fun G2 H2 S2 u y e2 W2 r2 h2 => by
      obtain ⟨xs, n, q1, rfl, b1, b2, hl, h2⟩ := h2
      cases r2
      obtain ⟨p, us, rfl, hp, rp⟩ := lst_rp W2 (r1.mono e2) q1
      exact ⟨p, n, us, rfl, rfl, hp, b1, b2, by rw [rp.length]; exact hl, fun l hl => post G2 _ S2 l _ _ (e1.trans e2) (W2.newH hl) (W2.freeG hl) (W2.free hl) (W2.freeF hl) upd_same (rp.rep _) h2⟩⟩
end
/-! ### attributes -/
def FldOk (K : PySem.W.Frag) (cs : List Str) (f : Str) : Prop := ∀ tag ∈ cs, ∀ C, ClsAt K tag C → Cls K C ∧ NoAttr K C f
theorem FRp.lookup {K : PySem.W.Frag} {G : Hp} {vs : List (Str × V)} {fs : List (Str × D)} (r : FRp K G vs fs) (f : Str) : (fs.lookup f = none ∧ vs.lookup f = none) ∨ ∃ d v, fs.lookup f = some d ∧ vs.lookup f = some v ∧ Rp K G v d := by
  induction r with
  | nil => exact .inl ⟨rfl, rfl⟩
  | cons h t ih =>
    rename_i a b l1 l2
    obtain ⟨an, av⟩ := a
    obtain ⟨bn, bd⟩ := b
    obtain ⟨h1, h2⟩ := h
    dsimp only at h1
    subst h1
    by_cases e : f = an
    · subst e
      exact .inr ⟨bd, av, by simp [List.lookup], by simp [List.lookup], h2⟩
    · have e' : (f == an) = false := beq_eq_false_iff_ne.mpr e
      simp only [List.lookup, e']
      exact ih
def putD (f : Str) (v : D) : List (Str × D) → List (Str × D)
  | [] => [(f, v)]
  | (g, x) :: r => if g = f then (g, v) :: r else (g, x) :: putD f v r
theorem FRp.put {K : PySem.W.Frag} {G : Hp} {vs : List (Str × V)} {fs : List (Str × D)} {f : Str} {v : V} {d : D} (r : FRp K G vs fs) (h : Rp K G v d) : FRp K G (putF f v vs) (putD f d fs) := by
  induction r with
  | nil => exact .cons ⟨rfl, h⟩ .nil
  | cons q t ih =>
    rename_i a b l1 l2
    obtain ⟨an, av⟩ := a
    obtain ⟨bn, bd⟩ := b
    obtain ⟨h1, h2⟩ := q
    dsimp only at h1
    subst h1
    unfold putF putD
    by_cases e : an = f
    · rw [if_pos e, if_pos e]
      exact .cons ⟨rfl, h⟩ t
    · rw [if_neg e, if_neg e]
      exact .cons ⟨rfl, h2⟩ ih
def dFld (cs : List Str) (f : Str) (da : DE) : DE := fun ρ S P => da ρ S fun x S1 => ∃ a tag fs v, x = .ref a ∧ S1 a = some (.ins tag fs) ∧ tag ∈ cs ∧ fs.lookup f = some v ∧ P v S1
theorem je_fld {X : Cx} {K : PySem.W.Frag} {e : Expr} {te : TE} {de : DE} {cs : List Str} {f : Str} {pos : Pos} (c : FldOk K cs f) (he : JE X e te de) (hK : X.K = K := by rfl) (hb : attributeBase e f X.env (eval e X.env) = eval e X.env := by rfl) : JE X (.Attribute e f pos) (tFld K te f) (dFld cs f de) := by
  subst hK
  exact ⟨pe_fld he.p hb, fun F G H σ ρ S P Q W E h post => he.l F G H σ ρ S _ _ W E h fun G1 H1 S1 v x e1 W1 r1 h1 => by
    obtain ⟨a, tag, fs, d, rfl, ea, ht, el, h1⟩ := h1
    cases r1
    obtain ⟨C, dx, vs, q, hC, r, _⟩ := W1.ins ea
    rcases FRp.lookup r f with ⟨z, _⟩ | ⟨d', v, z1, z2, rr⟩
    · rw [z] at el; cases el
    · rw [z1] at el; cases el
      exact ⟨a, C, dx, vs, v, rfl, q, (c tag ht C hC).1, (c tag ht C hC).2, z2, post G1 H1 S1 _ _ e1 W1 rr h1⟩⟩
/-! ### defs -/
abbrev DSp := List D → Sg → (D → Sg → Prop) → Prop
def liftSp (K : PySem.W.Frag) (dsp : DSp) : Sp := fun vs H Q _ => ∃ F G S ds P, Wd K F G H S ∧ RpL K G vs ds ∧ dsp ds S P ∧ Post K F G (Rp K) P Q
def dCall (dsp : DSp) (da : DA) : DE := fun ρ S P => da ρ S fun ds S1 => dsp ds S1 P
/-- the def named x keeps the promise, by the level k -/
structure FnT (P : Program) (w : World) (K : PySem.W.Frag) (mg : Str → Option Value) (base : Heap) (k : Nat) (x : Str) (dsp : DSp) : Prop where
  ex : ∃ f fd ps, FnOk P w K mg base CX0 k f fd ps (liftSp K dsp) ∧ mg x = some (.ref f) ∧ PySem.W.keepIn K (.ref f) = true ∧ Binds K fd ps []
/-- the method m of the classes cs -/
structure MtT (P : Program) (w : World) (K : PySem.W.Frag) (mg : Str → Option Value) (base : Heap) (k : Nat) (cs : List Str) (m : Str) (dsp : DSp) : Prop where
  ex : ∃ f fd ps, FnOk P w K mg base CX0 k f fd ps (liftSp K dsp) ∧ (∀ tag ∈ cs, ∀ C, ClsAt K tag C → Cls K C ∧ Meth K C m f) ∧ Binds K fd ps []
/-- the class named tag, made by its __init__ -/
structure MkT (P : Program) (w : World) (K : PySem.W.Frag) (mg : Str → Option Value) (base : Heap) (k : Nat) (tag : Str) (dsp : DSp) : Prop where
  ex : ∃ C f fd ps, FnOk P w K mg base CX0 k f fd ps (liftSp K dsp) ∧ ClsAt K tag C ∧ mg tag = some (.ref C) ∧ Mk K C f ∧ Binds K fd ps []
section
variable {X : Cx} {e o : Expr} {es : List Expr} {te : TE} {de : DE} {tr : TA} {dr : DA} {pos p apos : Pos} {x m tag : Str} {dsp : DSp} {k j : Nat} {cs : List Str}
theorem le_call (h : LA X.K tr dr) : LE X.K (tCall (liftSp X.K dsp) [] E0 tr) (dCall dsp dr) := fun F G H σ ρ S P Q W E q post => h F G H σ ρ S _ _ W E q fun G1 H1 S1 vs xs e1 W1 r1 h1 => by
  rw [List.append_nil]
  exact ⟨F, G1, S1, xs, P, W1, r1, h1, post.mono e1⟩
theorem je_call {P : Program} {w : World} {K : PySem.W.Frag} {mg : Str → Option Value} {base : Heap} (f : FnT P w K mg base k x dsp) (hr : Room j X.A) (hk : k ≤ j) (hg : Gl X x) (ha : JA X (e :: es) tr dr) (hP : X.prog = P := by rfl) (hw : X.w = w := by rfl) (hK : X.K = K := by rfl) (hmg : X.mg = mg := by rfl) (hba : X.base = base := by rfl) 
    (hdb : (x == ("__debug__" : Str)) = false := by decide) (he : starEach (e :: es) X.env = (false, eval e X.env) :: starEach es X.env := by rfl) (hpl : (backTo pos (starEach es X.env)).any (·.1) = false := by rfl) :
    JE X (.Call (.Name x p) (e :: es) [] pos) (tCall (liftSp K dsp) [] E0 tr) (dCall dsp dr) := by
  subst hP hw hK hmg hba
  obtain ⟨f, fd, ps, F, hm, hkp, hb⟩ := f.ex
  exact ⟨pe_call F (hr.mono hk) hg hm hkp hb .nil pass0 ha.p hdb he hpl, le_call ha.l⟩
/-- o.m(..), whatever class of cs o has -/
def tMethU (K : PySem.W.Frag) (cs : List Str) (m : Str) (sp : Sp) (ta : TE) (t : TA) : TE := fun σ H Q => ta σ H fun x H1 => ∃ a C dx fs, x = .ref a ∧ H1 a = some (.ins C dx fs) ∧ (∃ tag ∈ cs, ClsAt K tag C) ∧ fs.lookup m = none ∧ t σ H1 fun vs H2 => sp (x :: vs) H2 Q E0
def dMeth (cs : List Str) (m : Str) (dsp : DSp) (da : DE) (dr : DA) : DE := fun ρ S P => da ρ S fun x S1 => ∃ a tag fs, x = .ref a ∧ S1 a = some (.ins tag fs) ∧ tag ∈ cs ∧ fs.lookup m = none ∧ dr ρ S1 fun xs S2 => dsp (x :: xs) S2 P
theorem le_meth (ho : LE X.K te de) (h : LA X.K tr dr) : LE X.K (tMethU X.K cs m (liftSp X.K dsp) te tr) (dMeth cs m dsp de dr) := fun F G H σ ρ S P Q W E q post => ho F G H σ ρ S _ _ W E q fun G1 H1 S1 v y e1 W1 r1 h1 => by
  obtain ⟨a, tag, fs, rfl, ea, ht, el, h1⟩ := h1
  cases r1
  obtain ⟨C, dx, vs, q, hC, r, _⟩ := W1.ins ea
  refine ⟨a, C, dx, vs, rfl, q, ⟨tag, ht, hC⟩, ?_, ?_⟩
  · rcases FRp.lookup r m with ⟨_, z⟩ | ⟨d', v, z1, _, _⟩
    · exact z
    · rw [z1] at el; cases el
  · exact h F G1 H1 σ ρ S1 _ _ W1 (E.mono e1) h1 fun G2 H2 S2 vs xs e2 W2 r2 h2 => ⟨F, G2, S2, _, P, W2, .cons (.ref a) r2, h2, post.mono (e1.trans e2)⟩
theorem pe_methU {pl : Sem Bool} {f : Addr} {fd : FuncData} {ps : List Str} {sp : Sp} (he : PE X o te) (hm : ∀ tag ∈ cs, ∀ C, ClsAt X.K tag C → Cls X.K C ∧ Meth X.K C m f) (F : FnOk X.prog X.w X.K X.mg X.base CX0 k f fd ps sp) (hr : Room k X.A) (hb : Binds X.K fd ps [])
    (ha : PA X (e :: es) tr) (hst : starEach (e :: es) X.env = (false, eval e X.env) :: starEach es X.env := by rfl) (hpl : (backTo pos (starEach es X.env)).any (·.1) = false := by rfl)
    (ht : eval (.Call (.Attribute o m apos) (e :: es) [] pos) X.env = (do
      let ov ← eval o X.env
      standAt apos.atName
      let (f, first) ← holding [ov] (getMethod ov m pl)
      callWith pos f first (backTo pos (starEach (e :: es) X.env)) (backToKw pos (keywordEach [] X.env))) := by rfl) :
    PE X (.Call (.Attribute o m apos) (e :: es) [] pos) (tMethU X.K cs m sp te tr) := by
  refine ⟨fun pins s σ H Q I h => ?_⟩
  refine PySem.W.methodCall_KW (pl := pl) (thn (he.run pins s σ H _ I h) fun u s1 ⟨x, H1, I1, rx, a, C, dx, fs, ex, ea, ⟨tag, ht, hC⟩, l, q⟩ => ?_) ht
  subst ex
  obtain rfl : u = Value.ref a := rx
  obtain ⟨c, hm⟩ := hm tag ht C hC
  refine getmeth_ok I1 ea c hm l ?_
  refine PySem.W.callWith_K (first := [.ref a]) (h₀ := X.base) I.ok.mod.kin hm.kp (thn (ha.run pos pins s1 σ H1 _ I1 q) fun us s2 ⟨vs, H2, I2, r, q2⟩ => ⟨I2.kIn, ?_⟩) hst hpl
  exact run_fn (us := .ref a :: us) (vs := .ref a :: vs) (dvs := []) F hr hb .nil pass0 I2 (.cons rfl r) (by simpa using q2)
theorem pe_methU0 {pl : Sem Bool} {f : Addr} {fd : FuncData} {ps : List Str} {sp : Sp} (he : PE X o te) (hm : ∀ tag ∈ cs, ∀ C, ClsAt X.K tag C → Cls X.K C ∧ Meth X.K C m f) (F : FnOk X.prog X.w X.K X.mg X.base CX0 k f fd ps sp) (hr : Room k X.A) (hb : Binds X.K fd ps [])
    (ht : eval (.Call (.Attribute o m apos) [] [] pos) X.env = (do
      let ov ← eval o X.env
      standAt apos.atName
      let (f, first) ← holding [ov] (getMethod ov m pl)
      callWith pos f first (backTo pos (starEach [] X.env)) (backToKw pos (keywordEach [] X.env))) := by rfl) :
    PE X (.Call (.Attribute o m apos) [] [] pos) (tMethU X.K cs m sp te tNil) := by
  refine ⟨fun pins s σ H Q I h => ?_⟩
  refine PySem.W.methodCall_KW (pl := pl) (thn (he.run pins s σ H _ I h) fun u s1 ⟨x, H1, I1, rx, a, C, dx, fs, ex, ea, ⟨tag, ht, hC⟩, l, q⟩ => ?_) ht
  subst ex
  obtain rfl : u = Value.ref a := rx
  obtain ⟨c, hm⟩ := hm tag ht C hC
  refine getmeth_ok I1 ea c hm l ?_
  exact PySem.W.callWith_K0 (first := [.ref a]) I1.kIn hm.kp (run_fn (us := [.ref a]) (vs := [.ref a]) (dvs := []) F hr hb .nil pass0 I1 (.cons rfl .nil) (by
    have q' : sp [.ref a] H1 Q E0 := q
    simpa using q'))
theorem je_meth {P : Program} {w : World} {K : PySem.W.Frag} {mg : Str → Option Value} {base : Heap} {pl : Sem Bool} (f : MtT P w K mg base k cs m dsp) (hr : Room j X.A) (hk : k ≤ j) (ho : JE X o te de) (ha : JA X (e :: es) tr dr) (hP : X.prog = P := by rfl) (hw : X.w = w := by rfl) (hK : X.K = K := by rfl) (hmg : X.mg = mg := by rfl) (hba : X.base = base := by rfl) 
    (hst : starEach (e :: es) X.env = (false, eval e X.env) :: starEach es X.env := by rfl) (hpl : (backTo pos (starEach es X.env)).any (·.1) = false := by rfl)
    (ht : eval (.Call (.Attribute o m apos) (e :: es) [] pos) X.env = (do
      let ov ← eval o X.env
      standAt apos.atName
      let (f, first) ← holding [ov] (getMethod ov m pl)
      callWith pos f first (backTo pos (starEach (e :: es) X.env)) (backToKw pos (keywordEach [] X.env))) := by rfl) :
    JE X (.Call (.Attribute o m apos) (e :: es) [] pos) (tMethU K cs m (liftSp K dsp) te tr) (dMeth cs m dsp de dr) := by
  subst hP hw hK hmg hba
  obtain ⟨f, fd, ps, F, hm, hb⟩ := f.ex
  exact ⟨pe_methU ho.p hm F (hr.mono hk) hb ha.p hst hpl ht, le_meth ho.l ha.l⟩
theorem je_meth0 {P : Program} {w : World} {K : PySem.W.Frag} {mg : Str → Option Value} {base : Heap} {pl : Sem Bool} (f : MtT P w K mg base k cs m dsp) (hr : Room j X.A) (hk : k ≤ j) (ho : JE X o te de) (hP : X.prog = P := by rfl) (hw : X.w = w := by rfl) (hK : X.K = K := by rfl) (hmg : X.mg = mg := by rfl) (hba : X.base = base := by rfl) 
    (ht : eval (.Call (.Attribute o m apos) [] [] pos) X.env = (do
      let ov ← eval o X.env
      standAt apos.atName
      let (f, first) ← holding [ov] (getMethod ov m pl)
      callWith pos f first (backTo pos (starEach [] X.env)) (backToKw pos (keywordEach [] X.env))) := by rfl) :
    JE X (.Call (.Attribute o m apos) [] [] pos) (tMethU K cs m (liftSp K dsp) te tNil) (dMeth cs m dsp de dNil) := by
  subst hP hw hK hmg hba
  obtain ⟨f, fd, ps, F, hm, hb⟩ := f.ex
  exact ⟨pe_methU0 ho.p hm F (hr.mono hk) hb ht, le_meth ho.l ja_nil.l⟩
/-- C(..) -/
def dMake (tag : Str) (dsp : DSp) (dr : DA) : DE := fun ρ S P => dr ρ S fun xs S1 => ∀ x, S1 x = none → dsp (.ref x :: xs) (put S1 x (.ins tag [])) fun v S2 => v = .non ∧ P (.ref x) S2
theorem le_make {C : Addr} (hC : ClsAt X.K tag C) (h : LA X.K tr dr) : LE X.K (tMake C (liftSp X.K dsp) [] E0 tr) (dMake tag dsp dr) := fun F G H σ ρ S P Q W E q post => h F G H σ ρ S _ _ W E q fun G1 H1 S1 vs xs e1 W1 r1 h1 => by
  intro x dx hx hd hne
  rw [List.append_nil]
  have W2 := W1.newH (o := .own x) hd
  have hx2 : upd H1 dx (.own x) x = none := by rw [upd_ne hne.symm]; exact hx
  have W3 : Wd X.K F G1 (upd (upd H1 dx (.own x)) x (.ins C dx [])) (put S1 x (.ins tag [])) := W2.put (W1.freeG hx) (W1.freeF hx) (.ins hC .nil)
  refine ⟨F, G1, _, .ref x :: xs, _, W3, .cons (.ref x) r1, h1 x (W1.free hx), fun G4 H4 S4 v d e4 W4 r4 h4 => ?_⟩
  obtain ⟨rfl, h4⟩ := h4
  cases r4
  exact ⟨rfl, post G4 H4 S4 _ _ (e1.trans e4) W4 (.ref x) h4⟩
def tMakeU (K : PySem.W.Frag) (tag : Str) (sp : Sp) (t : TA) : TE := fun σ H Q => ∀ C, ClsAt K tag C → tMake C sp [] E0 t σ H Q
theorem je_make {P : Program} {w : World} {K : PySem.W.Frag} {mg : Str → Option Value} {base : Heap} (f : MkT P w K mg base k tag dsp) (hr : Room j X.A) (hk : k + 1 ≤ j) (hg : Gl X tag) (ha : JA X (e :: es) tr dr) (hP : X.prog = P := by rfl) (hw : X.w = w := by rfl) (hK : X.K = K := by rfl) (hmg : X.mg = mg := by rfl) (hba : X.base = base := by rfl) 
    (hdb : (tag == ("__debug__" : Str)) = false := by decide) (he : starEach (e :: es) X.env = (false, eval e X.env) :: starEach es X.env := by rfl) (hpl : (backTo pos (starEach es X.env)).any (·.1) = false := by rfl) :
    JE X (.Call (.Name tag p) (e :: es) [] pos) (tMakeU K tag (liftSp K dsp) tr) (dMake tag dsp dr) := by
  subst hP hw hK hmg hba
  obtain ⟨C, f, fd, ps, F, hC, hm, M, hb⟩ := f.ex
  exact ⟨PE.weak (pe_make M F (hr.mono hk) hg hm hb .nil pass0 ha.p hdb he hpl) fun σ H Q h => h C hC, fun F G H σ ρ S P Q W E h post C hC => le_make hC ha.l F G H σ ρ S P Q W E h post⟩
end
end DL
/-! DL5: statements, targets, what is walked, comprehensions, defs. -/
namespace DL
open PySem L2 PySem.Spec PyProof.Rows
structure DEnds where
  nx : Rho → Sg → Prop
  rt : D → Sg → Prop
  bk : Rho → Sg → Prop
  ct : Rho → Sg → Prop
abbrev DS := DEnds → Rho → Sg → Prop
abbrev DG := D → Rho → Sg → (Rho → Sg → Prop) → Prop
abbrev DGs := List D → Rho → Sg → (Rho → Sg → Prop) → Prop
structure EndsR (K : PySem.W.Frag) (F G : Hp) (DD : DEnds) (D : Ends) : Prop where
  nx : ∀ G' H' S' σ ρ, Ex G G' → Wd K F G' H' S' → ER K G' σ ρ → DD.nx ρ S' → D.nx σ H'
  rt : ∀ G' H' S' v x, Ex G G' → Wd K F G' H' S' → Rp K G' v x → DD.rt x S' → D.rt v H'
  bk : ∀ G' H' S' σ ρ, Ex G G' → Wd K F G' H' S' → ER K G' σ ρ → DD.bk ρ S' → D.bk σ H'
  ct : ∀ G' H' S' σ ρ, Ex G G' → Wd K F G' H' S' → ER K G' σ ρ → DD.ct ρ S' → D.ct σ H'
theorem EndsR.mono {K : PySem.W.Frag} {F G G1 : Hp} {DD : DEnds} {D : Ends} (h : EndsR K F G DD D) (e : Ex G G1) : EndsR K F G1 DD D :=
  ⟨fun G' H' S' σ ρ q => h.nx G' H' S' σ ρ (e.trans q), fun G' H' S' v x q => h.rt G' H' S' v x (e.trans q), fun G' H' S' σ ρ q => h.bk G' H' S' σ ρ (e.trans q), fun G' H' S' σ ρ q => h.ct G' H' S' σ ρ (e.trans q)⟩
def LS (K : PySem.W.Frag) (t : TS) (d : DS) : Prop := ∀ F G H σ ρ S DD D, Wd K F G H S → ER K G σ ρ → d DD ρ S → EndsR K F G DD D → t D σ H
def LG (K : PySem.W.Frag) (t : TG) (d : DG) : Prop := ∀ F G H σ ρ S v x P (Q : L2.St → Hp → Prop), Wd K F G H S → ER K G σ ρ → Rp K G v x → d x ρ S P → (∀ G' H' S' σ' ρ', Ex G G' → Wd K F G' H' S' → ER K G' σ' ρ' → P ρ' S' → Q σ' H') → t v σ H Q
def LGs (K : PySem.W.Frag) (t : TGs) (d : DGs) : Prop := ∀ F G H σ ρ S vs xs P (Q : L2.St → Hp → Prop), Wd K F G H S → ER K G σ ρ → RpL K G vs xs → d xs ρ S P → (∀ G' H' S' σ' ρ', Ex G G' → Wd K F G' H' S' → ER K G' σ' ρ' → P ρ' S' → Q σ' H') → t vs σ H Q
structure JS (X : Cx) (st : Stmt) (t : TS) (d : DS) : Prop where
  p : PS X st t
  l : LS X.K t d
structure JSs (X : Cx) (sts : List Stmt) (t : TS) (d : DS) : Prop where
  p : PSs X sts t
  l : LS X.K t d
structure JG (X : Cx) (e : Expr) (t : TG) (d : DG) : Prop where
  p : PG X e t
  l : LG X.K t d
structure JGs (X : Cx) (es : List Expr) (t : TGs) (d : DGs) : Prop where
  p : PGs X es t
  l : LGs X.K t d
/-! ### the readings of statements -/
def dNext : DS := fun DD ρ S => DD.nx ρ S
def dSeq (d u : DS) : DS := fun DD ρ S => d { DD with nx := u DD } ρ S
def dBreak : DS := fun DD ρ S => DD.bk ρ S
def dCont : DS := fun DD ρ S => DD.ct ρ S
def dNever : DS := fun _ _ _ => False
def dDrop (de : DE) : DS := fun DD ρ S => de ρ S fun _ S1 => DD.nx ρ S1
def Less (S0 S : Sg) : Prop := ∀ a c, S0 a = some c → S a = some c
/-- return e; what was made on the way may be forgotten -/
def dRet (de : DE) : DS := fun DD ρ S => de ρ S fun x S1 => DD.rt x S1
def dRetW (de : DE) : DS := fun DD ρ S => de ρ S fun x S1 => ∃ S0, Less S0 S1 ∧ DD.rt x S0
/-- return a list of the def's own: from now on a value -/
def dRetF (de : DE) : DS := fun DD ρ S => de ρ S fun x S1 => ∃ p ds S0, x = .ref p ∧ S1 p = some (.lst ds) ∧ S0 p = none ∧ Less S0 S1 ∧ DD.rt (.lst ds) S0
def dRetN : DS := fun DD _ S => DD.rt .non S
def dIfS (t : DT) (d u : DS) : DS := fun DD ρ S => t ρ S fun b S1 => if b = true then d DD ρ S1 else u DD ρ S1
def dAsg (de : DE) (dg : DG) : DS := fun DD ρ S => de ρ S fun x S1 => dg x ρ S1 DD.nx
def dAug (i : Nat) (f : DOp) (de : DE) : DS := fun DD ρ S => ∃ x, ρ[i]? = some (some x) ∧ de ρ S fun y S1 => f S1 x y fun z S2 => DD.nx (ρ.set i (some z)) S2
def dgName (i : Nat) : DG := fun x ρ S P => P (ρ.set i (some x)) S
def dgNil : DGs := fun xs ρ S P => xs = [] ∧ P ρ S
def dgCons (d : DG) (u : DGs) : DGs := fun xs ρ S P => ∃ x r, xs = x :: r ∧ d x ρ S fun ρ1 S1 => u r ρ1 S1 P
def dgTup (u : DGs) : DG := fun x ρ S P => ∃ ds, x = .tup ds ∧ u ds ρ S P
def putKD {κ : Type} [DecidableEq κ] (kvs : List (κ × D)) (k : κ) (v : D) : List (κ × D) := if (kvs.any fun kv => decide (kv.1 = k)) = true then kvs.map (fun kv => if kv.1 = k then (kv.1, v) else kv) else kvs ++ [(k, v)]
/-- o[i] = x -/
def dgSub (do_ di : DE) : DG := fun v ρ S P => do_ ρ S fun o S1 => di ρ S1 fun i S2 => ∃ p, o = .ref p ∧
  match S2 p with
  | some (.lst ds) => ∃ k j, i = .int k ∧ ixN ds.length k = some j ∧ P ρ (put S2 p (.lst (ds.set j v)))
  | some (.dK kvs) => ∃ k, keyD i = some k ∧ kvs.length < sizeLine ∧ P ρ (put S2 p (.dK (putKD kvs k v)))
  | _ => False
/-- o.f = e -/
def dFldS (cs : List Str) (f : Str) (da dv : DE) : DS := fun DD ρ S => dv ρ S fun y S1 => da ρ S1 fun x S2 => ∃ a tag fs, x = .ref a ∧ S2 a = some (.ins tag fs) ∧ tag ∈ cs ∧ fs.length < 1000 ∧ DD.nx ρ (put S2 a (.ins tag (putD f y fs)))
section
variable {X : Cx} {e a : Expr} {sts rest : List Stmt} {st : Stmt} {te ta tv : TE} {de da dv : DE} {tt : TT} {dt : DT} {ts tu : TS} {ds du : DS} {pos pos' : Pos} {tg : TG} {dg : DG}
theorem jss_nil : JSs X [] tNext dNext := ⟨pss_nil, fun F G H σ ρ S DD D W E h R => R.nx G H S σ ρ (Ex.refl G) W E h⟩
theorem LS.seq {K : PySem.W.Frag} (h : LS K ts ds) (h' : LS K tu du) : LS K (tSeq ts tu) (dSeq ds du) := fun F G H σ ρ S DD D W E q R =>
  h F G H σ ρ S _ _ W E q ⟨fun G' H' S' σ' ρ' e W' E' q' => h' F G' H' σ' ρ' S' DD D W' E' q' (R.mono e), R.rt, R.bk, R.ct⟩
theorem jss_cons (h : JS X st ts ds) (h' : JSs X rest tu du) : JSs X (st :: rest) (tSeq ts tu) (dSeq ds du) := ⟨pss_cons h.p h'.p, h.l.seq h'.l⟩
theorem jss_one (h : JS X st ts ds) : JSs X [st] ts ds := ⟨pss_one h.p, h.l⟩
theorem js_pass : JS X (.Pass pos) tNext dNext := ⟨ps_pass, fun F G H σ ρ S DD D W E h R => R.nx G H S σ ρ (Ex.refl G) W E h⟩
theorem js_break : JS X (.Break pos) tBreak dBreak := ⟨ps_break, fun F G H σ ρ S DD D W E h R => R.bk G H S σ ρ (Ex.refl G) W E h⟩
theorem js_cont : JS X (.Continue pos) tCont dCont := ⟨ps_continue, fun F G H σ ρ S DD D W E h R => R.ct G H S σ ρ (Ex.refl G) W E h⟩
theorem js_never : JS X st tNever dNever := ⟨ps_never, fun F G H σ ρ S DD D W E h R => h⟩
theorem js_expr (h : JE X e te de) (hs : swapsWith e none pos.line X.env = pure false := by rfl) : JS X (.Expr e pos) (tDrop te) (dDrop de) := ⟨ps_expr h.p hs, fun F G H σ ρ S DD D W E q R => h.l F G H σ ρ S _ _ W E q fun G1 H1 S1 v x e1 W1 r1 h1 => R.nx G1 H1 S1 σ ρ e1 W1 (E.mono e1) h1⟩
theorem js_ret (h : JE X e te de) : JS X (.Return (some e) pos) (tRet te) (dRet de) := ⟨ps_ret h.p, fun F G H σ ρ S DD D W E q R => h.l F G H σ ρ S _ _ W E q fun G1 H1 S1 v x e1 W1 r1 h1 => R.rt G1 H1 S1 v x e1 W1 r1 h1⟩
theorem js_retW (h : JE X e te de) : JS X (.Return (some e) pos) (tRet te) (dRetW de) := ⟨ps_ret h.p, fun F G H σ ρ S DD D W E q R => h.l F G H σ ρ S _ _ W E q fun G1 H1 S1 v x e1 W1 r1 h1 => by
  obtain ⟨S0, l, h1⟩ := h1
  exact R.rt G1 H1 S0 v x e1 (W1.less l) r1 h1⟩
theorem js_retF (h : JE X e te de) : JS X (.Return (some e) pos) (tRet te) (dRetF de) := ⟨ps_ret h.p, fun F G H σ ρ S DD D W E q R => h.l F G H σ ρ S _ _ W E q fun G1 H1 S1 v x e1 W1 r1 h1 => by
  obtain ⟨p, es, S0, rfl, ep, e0, l, h1⟩ := h1
  cases r1
  obtain ⟨xs, hp, r, g⟩ := W1.lst ep
  exact R.rt _ H1 S0 _ _ (e1.trans (Ex.new g)) ((W1.less l).own hp g e0 (W1.cellF ep)) (.lst upd_same (r.mono (Ex.new g))) h1⟩
theorem js_retN : JS X (.Return none pos) tRetN dRetN := ⟨ps_retN, fun F G H σ ρ S DD D W E q R => R.rt G H S _ _ (Ex.refl G) W .non q⟩
theorem js_if {b : List Stmt} (hc : JT X e tt dt) (h1 : JSs X sts ts ds) (h2 : JSs X b tu du) : JS X (.If e sts b pos) (tIfS tt ts tu) (dIfS dt ds du) := ⟨ps_if hc.p h1.p h2.p, fun F G H σ ρ S DD D W E q R => hc.l F G H σ ρ S _ _ W E q fun G1 H1 S1 v x e1 W1 r1 q1 => by
  subst r1
  cases v with
  | true =>
    rw [if_pos rfl] at q1 ⊢
    exact h1.l F G1 H1 σ ρ S1 DD D W1 (E.mono e1) q1 (R.mono e1)
  | false =>
    rw [if_neg Bool.false_ne_true] at q1 ⊢
    exact h2.l F G1 H1 σ ρ S1 DD D W1 (E.mono e1) q1 (R.mono e1)⟩
theorem LS.asg {K : PySem.W.Frag} (h : LE K te de) (hg : LG K tg dg) : LS K (tAsg te tg) (dAsg de dg) := fun F G H σ ρ S DD D W E q R => h F G H σ ρ S _ _ W E q fun G1 H1 S1 v x e1 W1 r1 q1 =>
  hg F G1 H1 σ ρ S1 v x _ _ W1 (E.mono e1) r1 q1 fun G2 H2 S2 σ2 ρ2 e2 W2 E2 q2 => R.nx G2 H2 S2 σ2 ρ2 (e1.trans e2) W2 E2 q2
theorem lg_name {K : PySem.W.Frag} (i : Nat) : LG K (gName i) (dgName i) := fun F G H σ ρ S v x P Q W E r q k => k G H S _ _ (Ex.refl G) W (E.set i (v := some v) (d := some x) r) q
theorem js_set {i : Nat} {x : Str} (h : JE X e te de) (hN : X.N.Nodup) (hi : X.N[i]? = some x := by rfl) (hx : Loc X.env.scope x := by first | exact .inl rfl | exact .inr rfl) (hs : swapsWith e (some (.Name x pos')) pos.line X.env = pure false := by rfl)
    (hf : X.fn x = true ∨ X.env.scope.names.lookup x = some .local := by first | exact .inl rfl | exact .inr rfl) : JS X (.Assign [.Name x pos'] e pos) (tAsg te (gName i)) (dAsg de (dgName i)) := ⟨ps_set hN hi hx h.p hs hf, LS.asg h.l (lg_name i)⟩
theorem js_asg {t : Expr} (h : JE X e te de) (hg : JG X t tg dg) (hs : swapsWithSole [t] e pos.line X.env = pure false := by rfl) (hw : swappedStores [t] e X.env = pure none := by rfl)
    (h1 : (assignEach [t] X.env).map (·.2) = [assign t X.env] := by rfl) : JS X (.Assign [t] e pos) (tAsg te tg) (dAsg de dg) := ⟨ps_asg h.p hg.p hs hw h1, LS.asg h.l hg.l⟩
theorem js_aug {i : Nat} {x : Str} {op : Operator} {r : R2} {f : DOp} (h : JE X e te de) (hN : X.N.Nodup) (ho : OpR X (inplaceOp op) r) (lo : LO X.K r f) (hi : X.N[i]? = some x := by rfl) (hx : Loc X.env.scope x := by first | exact .inl rfl | exact .inr rfl)
    (hf : X.fn x = true ∨ X.env.scope.names.lookup x = some .local := by first | exact .inl rfl | exact .inr rfl) : JS X (.AugAssign (.Name x pos') op e pos) (tAug i te r) (dAug i f de) :=
  ⟨ps_aug hN hi hx h.p ho hf, fun F G H σ ρ S DD D W E q R => by
    obtain ⟨x, ex, q⟩ := q
    obtain ⟨v, ev, rx⟩ := E.get ex
    exact ⟨v, ev, h.l F G H σ ρ S _ _ W E q fun G1 H1 S1 u y e1 W1 r1 q1 => lo F G1 H1 S1 v u x y _ _ W1 (rx.mono e1) r1 q1 fun G2 H2 S2 z dz e2 W2 r2 q2 =>
      R.nx G2 H2 S2 _ _ (e1.trans e2) W2 ((E.mono (e1.trans e2)).set i (v := some z) (d := some dz) r2) q2⟩⟩
theorem jg_name {i : Nat} {x : Str} (hN : X.N.Nodup) (hi : X.N[i]? = some x := by rfl) (hx : Loc X.env.scope x := by first | exact .inl rfl | exact .inr rfl) (hf : X.fn x = true ∨ X.env.scope.names.lookup x = some .local := by first | exact .inl rfl | exact .inr rfl) :
    JG X (.Name x pos) (gName i) (dgName i) := ⟨pg_name hN hi hx hf, lg_name i⟩
theorem jgs_nil : JGs X [] gNil dgNil := ⟨pgs_nil, fun F G H σ ρ S vs xs P Q W E r q k => by
  obtain ⟨rfl, q⟩ := q
  cases r
  exact ⟨rfl, k G H S σ ρ (Ex.refl G) W E q⟩⟩
theorem jgs_cons {es : List Expr} {us : TGs} {dus : DGs} (h : JG X e tg dg) (h' : JGs X es us dus) (hs : (assignEach (e :: es) X.env).map (·.2) = assign e X.env :: (assignEach es X.env).map (·.2) := by rfl) : JGs X (e :: es) (gCons tg us) (dgCons dg dus) :=
  ⟨pgs_cons h.p h'.p hs, fun F G H σ ρ S vs xs P Q W E r q k => by
    obtain ⟨x, xr, rfl, q⟩ := q
    cases r with
    | cons r rr => exact ⟨_, _, rfl, h.l F G H σ ρ S _ _ _ _ W E r q fun G1 H1 S1 σ1 ρ1 e1 W1 E1 q1 => h'.l F G1 H1 σ1 ρ1 S1 _ _ _ _ W1 E1 (rr.mono e1) q1 fun G2 H2 S2 σ2 ρ2 e2 => k G2 H2 S2 σ2 ρ2 (e1.trans e2)⟩⟩
theorem dgs_len {es : List Expr} {us : TGs} {dus : DGs} : True := trivial
theorem jg_tup {K : PySem.W.Frag} {es : List Expr} {kk : Nat} {us : TGs} {dus : DGs} {n : Nat} (hc : X.calm = true) (h : JGs X es us dus) (hlen : ∀ xs ρ S P, dus xs ρ S P → xs.length = n) (hK : X.K = K := by rfl) (hn : (assignEach es X.env).length = n := by rfl) (hst : (assignEach es X.env).findIdx? (·.1) = none := by rfl) :
    JG X (.Tuple es kk pos) (gTup K n us) (dgTup dus) := by
  subst hK
  exact ⟨pg_tup hc h.p hn hst, fun F G H σ ρ S v x P Q W E r q k => by
  obtain ⟨xs, rfl, q⟩ := q
  cases r with
  | tup hq rr => exact ⟨_, _, rfl, W.sub.t hq, by rw [rr.length]; exact hlen _ _ _ _ q, h.l F G H σ ρ S _ _ _ _ W E rr q k⟩⟩
theorem len_nil : ∀ xs ρ S P, dgNil xs ρ S P → xs.length = 0 := fun xs ρ S P h => by rw [h.1]; rfl
theorem len_cons {us : DGs} {n : Nat} (h : ∀ xs ρ S P, us xs ρ S P → xs.length = n) : ∀ xs ρ S P, dgCons (dgName i) us xs ρ S P → xs.length = n + 1 := fun xs ρ S P q => by
  obtain ⟨x, r, rfl, q⟩ := q
  rw [List.length_cons, h _ _ _ _ q]
theorem PSet.or {t u : TSet} (h : PSet X t) (h' : PSet X u) : PSet X (fun o i v H Q => t o i v H Q ∨ u o i v H Q) := by
  intro pins s σ H o i v ov iv w Q I ro ri rv q
  rcases q with q | q
  · exact h pins s σ H o i v ov iv w Q I ro ri rv q
  · exact h' pins s σ H o i v ov iv w Q I ro ri rv q
theorem any_key {κ : Type} [DecidableEq κ] {K : PySem.W.Frag} {G : Hp} {kvs : List (κ × V)} {kds : List (κ × D)} (r : KRp K G kvs kds) (k : κ) : (kvs.any fun kv => decide (kv.1 = k)) = kds.any fun kv => decide (kv.1 = k) := by
  induction r with
  | nil => rfl
  | cons h t ih => rw [List.any_cons, List.any_cons, ih, h.1]
theorem KRp.mapK {κ : Type} [DecidableEq κ] {K : PySem.W.Frag} {G : Hp} {kvs : List (κ × V)} {kds : List (κ × D)} {k : κ} {v : V} {d : D} (r : KRp K G kvs kds) (h : Rp K G v d) :
    KRp K G (kvs.map fun kv => if kv.1 = k then (kv.1, v) else kv) (kds.map fun kv => if kv.1 = k then (kv.1, d) else kv) := by
  induction r with
  | nil => exact .nil
  | cons a t ih =>
    rw [List.map_cons, List.map_cons]
    refine .cons ?_ ih
    rename_i p q l1 l2
    by_cases z : p.1 = k
    · have z' : q.1 = k := a.1 ▸ z
      rw [if_pos z, if_pos z']
      exact ⟨a.1, h⟩
    · have z' : ¬ q.1 = k := a.1 ▸ z
      rw [if_neg z, if_neg z']
      exact a
theorem KRp.put {κ : Type} [DecidableEq κ] {K : PySem.W.Frag} {G : Hp} {kvs : List (κ × V)} {kds : List (κ × D)} {k : κ} {v : V} {d : D} (r : KRp K G kvs kds) (h : Rp K G v d) :
    KRp K G (L2.putK kvs k v) (putKD kds k d) := by
  unfold L2.putK putKD
  rw [any_key r k]
  split
  · exact r.mapK h
  · exact r.snoc ⟨rfl, h⟩
abbrev rSetU : TSet := fun o i v H Q => rSetL o i v H Q ∨ rSetD o i v H Q
theorem jg_sub {o i : Expr} {to ti : TE} {do_ di : DE} {k : Nat} (hr : Room k X.A) (ho : JE X o to do_) (hi : JE X i ti di)
    (ha : ∀ v, assign (.Subscript o i pos) X.env v = (do
      let ov ← holding [v] (eval o X.env)
      let iv ← holding [v, ov] (eval i X.env)
      standAt pos
      holding [v, ov, iv] (setItem ov iv v)
      release [v, ov, iv] []) := by intro _; rfl) : JG X (.Subscript o i pos) (gSub to ti rSetU) (dgSub do_ di) :=
  ⟨pg_sub ho.p hi.p (PSet.or set_list (set_dict (hu_of hr))) ha, fun F G H σ ρ S v x P Q W E r q k => ho.l F G H σ ρ S _ _ W E q fun G1 H1 S1 vo xo e1 W1 r1 q1 => hi.l F G1 H1 σ ρ S1 _ _ W1 (E.mono e1) q1 fun G2 H2 S2 vi xi e2 W2 r2 q2 => by
    obtain ⟨p, rfl, q2⟩ := q2
    cases r1
    have rv := r.mono (e1.trans e2)
    have fin := fun (H3 : Hp) (S3 : Sg) (W3 : Wd X.K F G2 H3 S3) (hp : P ρ S3) => k G2 H3 S3 σ ρ (e1.trans e2) W3 (E.mono (e1.trans e2)) hp
    split at q2
    · rename_i ds eS
      obtain ⟨kk, j, rfl, ej, q2⟩ := q2
      cases r2
      obtain ⟨xs, hp, rr, g⟩ := W2.lst eS
      exact .inl ⟨p, xs, kk, j, rfl, rfl, hp, by rw [rr.length]; exact ej, fin _ _ (W2.put g (W2.cellF eS) (.lst (rr.set j rv))) q2⟩
    · rename_i kvs eS
      obtain ⟨kk, ek, hl, q2⟩ := q2
      obtain ⟨kv, hp, rr, g⟩ := W2.dK eS
      have ey := keyD_rp r2 ek
      have hlen : kv.length = kvs.length := rr.length
      refine .inr ⟨p, _, rfl, by rw [ey]; exact DPut.k hp (by rw [hlen]; exact hl), fin _ _ (W2.put g (W2.cellF eS) (.dK (KRp.put rr rv))) q2⟩
    · exact q2.elim⟩
theorem js_fld {o value : Expr} {f : Str} {cs : List Str} (c : FldOk X.K cs f) (ha : JE X o ta da) (hv : JE X value tv dv) (hs : swapsWith value (some (.Attribute o f pos')) pos.line X.env = pure false := by rfl) : JS X (.Assign [.Attribute o f pos'] value pos) (sFld X.K ta tv f) (dFldS cs f da dv) :=
  ⟨ps_fld ha.p hv.p hs, fun F G H σ ρ S DD D W E q R => hv.l F G H σ ρ S _ _ W E q fun G1 H1 S1 v y e1 W1 r1 q1 => ha.l F G1 H1 σ ρ S1 _ _ W1 (E.mono e1) q1 fun G2 H2 S2 u x e2 W2 r2 q2 => by
    obtain ⟨a, tag, fs, rfl, ea, ht, hl, q2⟩ := q2
    cases r2
    obtain ⟨C, dx, vs, hq, hC, r, g⟩ := W2.ins ea
    refine ⟨a, C, dx, vs, rfl, hq, (c tag ht C hC).1, (c tag ht C hC).2, by rw [Paired.length r]; exact hl, ?_⟩
    exact R.nx G2 _ _ σ ρ (e1.trans e2) (W2.put g (W2.cellF ea) (.ins hC (FRp.put r (r1.mono e2)))) (E.mono (e1.trans e2)) q2⟩
end
/-! ### what is walked -/
def ItOk (K : PySem.W.Frag) (J : It) (G0 : Hp) (ds : List D) (st : Sg → Prop) : Prop := ∀ F i G H S, Ex G0 G → Wd K F G H S → st S →
  (∀ d, ds[i]? = some d → J.go i H ∧ ∀ x H', J.yld i H x H' → ∃ G', Ex G G' ∧ Wd K F G' H' S ∧ Rp K G' x d) ∧ (ds.length ≤ i → J.stop i H)
abbrev DI := Rho → Sg → (List D → (Sg → Prop) → Sg → Prop) → Prop
def LI (K : PySem.W.Frag) (wi : TI) (di : DI) : Prop := ∀ F G H σ ρ S P (R : It → Hp → Prop), Wd K F G H S → ER K G σ ρ → di ρ S P → (∀ J G' H' S' ds st, Ex G G' → Wd K F G' H' S' → P ds st S' → ItOk K J G' ds st → R J H') → wi σ H R
structure JI (X : Cx) (tg it : Expr) (wi : TI) (di : DI) : Prop where
  p : PI X tg it wi
  l : LI X.K wi di
/-- over ds; st: what keeps them standing -/
def forD (dg : DG) (db : DS) (st : Sg → Prop) (DD : DEnds) : List D → Rho → Sg → Prop
  | [], ρ, S => st S ∧ DD.nx ρ S
  | x :: xs, ρ, S => st S ∧ dg x ρ S fun ρ1 S1 => db ⟨fun ρ2 S2 => forD dg db st DD xs ρ2 S2, DD.rt, DD.nx, fun ρ2 S2 => forD dg db st DD xs ρ2 S2⟩ ρ1 S1
def dFor (di : DI) (dg : DG) (db : DS) : DS := fun DD ρ S => di ρ S fun ds st S1 => forD dg db st DD ds ρ S1
theorem LS.for {K : PySem.W.Frag} {wi : TI} {di : DI} {tg : TG} {dg : DG} {tb : TS} {db : DS} (hi : LI K wi di) (hg : LG K tg dg) (hb : LS K tb db) : LS K (tFor wi tg tb) (dFor di dg db) := fun F G H σ ρ S DD D W E q R =>
  hi F G H σ ρ S _ _ W E q fun J G1 H1 S1 ds st e1 W1 q1 ok => by
    refine ⟨fun i m σ H => m = ds.length - i ∧ i ≤ ds.length ∧ ∃ G2 S2 ρ2, Ex G1 G2 ∧ Wd K F G2 H S2 ∧ ER K G2 σ ρ2 ∧ forD dg db st DD (ds.drop i) ρ2 S2, ⟨ds.length, rfl, Nat.zero_le _, G1, S1, ρ, Ex.refl _, W1, E.mono e1, q1⟩, ?_⟩
    rintro i m σ2 H2 ⟨rfl, hi, G2, S2, ρ2, e2, W2, E2, q2⟩
    by_cases hlt : i < ds.length
    · have ed : ds.drop i = ds[i] :: ds.drop (i + 1) := List.drop_eq_getElem_cons hlt
      rw [ed] at q2
      obtain ⟨hst, q2⟩ := q2
      obtain ⟨go, yld⟩ := (ok F i G2 H2 S2 e2 W2 hst).1 ds[i] (List.getElem?_eq_getElem hlt)
      refine .inr ⟨go, fun σ H => ∃ G2 S2 ρ2, Ex G1 G2 ∧ Wd K F G2 H S2 ∧ ER K G2 σ ρ2 ∧ forD dg db st DD (ds.drop (i + 1)) ρ2 S2, fun σ' H' h => ⟨ds.length - (i + 1), by omega, rfl, hlt, h⟩, fun x H3 y => ?_⟩
      obtain ⟨G3, e3, W3, r3⟩ := yld x H3 y
      refine hg F G3 H3 σ2 ρ2 S2 x ds[i] _ _ W3 (E2.mono e3) r3 q2 fun G4 H4 S4 σ4 ρ4 e4 W4 E4 q4 => ?_
      refine hb F G4 H4 σ4 ρ4 S4 _ _ W4 E4 q4 ⟨fun G5 H5 S5 σ5 ρ5 e5 W5 E5 q5 => ⟨G5, S5, ρ5, ((e2.trans e3).trans e4).trans e5, W5, E5, q5⟩, fun G5 H5 S5 v x e5 => R.rt G5 H5 S5 v x ((((e1.trans e2).trans e3).trans e4).trans e5), fun G5 H5 S5 v x e5 => R.nx G5 H5 S5 v x ((((e1.trans e2).trans e3).trans e4).trans e5), fun G5 H5 S5 σ5 ρ5 e5 W5 E5 q5 => ⟨G5, S5, ρ5, ((e2.trans e3).trans e4).trans e5, W5, E5, q5⟩⟩
    · have e : i = ds.length := by omega
      subst e
      rw [List.drop_length] at q2
      exact .inl ⟨(ok F _ G2 H2 S2 e2 W2 q2.1).2 (Nat.le_refl _), R.nx G2 H2 S2 σ2 ρ2 (e1.trans e2) W2 E2 q2.2⟩
theorem js_for {X : Cx} {tg iter : Expr} {body : List Stmt} {wi : TI} {di : DI} {g : TG} {dg : DG} {tb : TS} {db : DS} {pos : Pos} (hp : PassesOwn (model X.prog X.w) X.A X.env X.xe) (hc : X.calm = true) (hi : JI X tg iter wi di) (hg : JG X tg g dg) (hb : JSs X body tb db)
    (hs : ∀ x, foldedSetIterable iter X.env x = pure x := by intro _; rfl) : JS X (.For tg iter body [] pos) (tFor wi g tb) (dFor di dg db) := ⟨ps_for hp hc hi.p hg.p hb.p hs, LS.for hi.l hg.l hb.l⟩
/-! ### while: by as many turns as wanted -/
def whileD (dt : DT) (db : DS) (DD : DEnds) : Nat → Rho → Sg → Prop
  | 0, _, _ => False
  | n + 1, ρ, S => dt ρ S fun b S1 => if b = true then db ⟨fun ρ2 S2 => whileD dt db DD n ρ2 S2, DD.rt, DD.nx, fun ρ2 S2 => whileD dt db DD n ρ2 S2⟩ ρ S1 else DD.nx ρ S1
def dWhile (dt : DT) (db : DS) : DS := fun DD ρ S => ∃ n, whileD dt db DD n ρ S
theorem LS.while {K : PySem.W.Frag} {tt : TT} {dt : DT} {tb : TS} {db : DS} (hc : LT K tt dt) (hb : LS K tb db) : LS K (tWhile tt tb) (dWhile dt db) := fun F G H σ ρ S DD D W E q R => by
  obtain ⟨n, q⟩ := q
  refine ⟨fun m σ H => ∃ G2 S2 ρ2, Ex G G2 ∧ Wd K F G2 H S2 ∧ ER K G2 σ ρ2 ∧ whileD dt db DD m ρ2 S2, ⟨n, G, S, ρ, Ex.refl _, W, E, q⟩, ?_⟩
  rintro m σ2 H2 ⟨G2, S2, ρ2, e2, W2, E2, q2⟩
  cases m with
  | zero => exact q2.elim
  | succ m =>
    refine hc F G2 H2 σ2 ρ2 S2 _ _ W2 E2 q2 fun G3 H3 S3 b b' e3 W3 r3 q3 => ?_
    subst r3
    cases b with
    | true =>
      rw [if_pos rfl] at q3 ⊢
      refine ⟨fun σ H => ∃ G2 S2 ρ2, Ex G G2 ∧ Wd K F G2 H S2 ∧ ER K G2 σ ρ2 ∧ whileD dt db DD m ρ2 S2, fun σ' H' h => ⟨m, by omega, h⟩, ?_⟩
      exact hb F G3 H3 σ2 ρ2 S3 _ _ W3 (E2.mono e3) q3 ⟨fun G5 H5 S5 σ5 ρ5 e5 W5 E5 q5 => ⟨G5, S5, ρ5, (e2.trans e3).trans e5, W5, E5, q5⟩, fun G5 H5 S5 v x e5 => R.rt G5 H5 S5 v x ((e2.trans e3).trans e5), fun G5 H5 S5 v x e5 => R.nx G5 H5 S5 v x ((e2.trans e3).trans e5), fun G5 H5 S5 σ5 ρ5 e5 W5 E5 q5 => ⟨G5, S5, ρ5, (e2.trans e3).trans e5, W5, E5, q5⟩⟩
    | false =>
      rw [if_neg Bool.false_ne_true] at q3 ⊢
      exact R.nx G3 H3 S3 σ2 ρ2 (e2.trans e3) W3 (E2.mono e3) q3
theorem js_while {X : Cx} {c : Expr} {body : List Stmt} {tc : TT} {dt : DT} {tb : TS} {db : DS} {pos : Pos} (hp : PassesOwn (model X.prog X.w) X.A X.env X.xe) (hc : JT X c tc dt) (hb : JSs X body tb db) : JS X (.While c body [] pos) (tWhile tc tb) (dWhile dt db) := ⟨ps_while hp hc.p hb.p, LS.while hc.l hb.l⟩
end DL
/-! DL6: iterables, comprehensions, the promise of a def. -/
namespace DL
open PySem L2 PySem.Spec PyProof.Rows
/-! ### a list, a tuple, a text -/
def iAny (K : PySem.W.Frag) (te : TE) : TI := fun σ H R => te σ H fun x H1 => (∃ a, x = .ref a ∧ (∃ xs, SqL K H1 a xs) ∧ R (Itl K a) H1) ∨ (∃ a, x = .ref a ∧ (∃ xs, SqT K H1 a xs) ∧ R (Itt K a) H1) ∨ ∃ z, x = .str z ∧ R (Its z) H1
theorem pi_any {X : Cx} {tg e : Expr} {te : TE} (he : PE X e te) : PI X tg e (iAny X.K te) := by
  refine ⟨fun pins s σ H R I h => ?_⟩
  refine thn (he.run pins s σ H _ I h) fun v s1 ⟨x, H1, I1, r1, q1⟩ => ?_
  rcases q1 with ⟨a, e, ⟨xs, hq⟩, q⟩ | ⟨a, e, ⟨xs, hq⟩, q⟩ | ⟨z, e, q⟩
  · subst e
    cases r1
    obtain ⟨its, rv, p, hz⟩ := I1.list hq
    refine wpAny_pyIter_list p.isList ?_
    exact pi_one (tk := s1.toks) I1 _ (turn_list a _) ⟨_, Heap.get?_push_size _ rfl, rfl, rfl⟩ q
  · subst e
    cases r1
    obtain ⟨its, rv, p, hz⟩ := I1.tuple hq
    refine wpAny_pyIter_tuple (show s1.heap.IsTuple a its.toArray from p) ?_
    exact pi_one (tk := s1.toks) I1 _ (turn_tuple a _) ⟨_, Heap.get?_push_size _ rfl, rfl, rfl⟩ q
  · subst e
    obtain ⟨t, rfl⟩ := r1
    cases ha : z.cps.all (· < 128)
    · exact wpAny_pyIter_wide ha (pi_one (tk := s1.toks) I1 _ (turn_str _ z t "str_iterator" (.inr rfl)) ⟨_, Heap.get?_push_size _ rfl, rfl, rfl⟩ q)
    · exact wpAny_pyIter_ascii ha (pi_one (tk := s1.toks) I1 _ (turn_str _ z t "str_ascii_iterator" (.inl rfl)) ⟨_, Heap.get?_push_size _ rfl, rfl, rfl⟩ q)
/-- the items of what is walked, and what keeps them standing -/
def walkOf (S : Sg) : D → Option (List D × (Sg → Prop))
  | .tup ds => some (ds, fun _ => True)
  | .lst ds => some (ds, fun _ => True)
  | .str z => some (z.cps.toList.map fun c => .str ⟨#[c]⟩, fun _ => True)
  | .ref p => match S p with
    | some (.lst ds) => some (ds, fun S' => S' p = some (.lst ds))
    | _ => none
  | _ => none
def dAny (de : DE) : DI := fun ρ S P => de ρ S fun x S1 => ∃ ds st, walkOf S1 x = some (ds, st) ∧ P ds st S1
section
variable {K : PySem.W.Frag} {G G0 H : Hp} {S : Sg} {F : Hp}
theorem itl_ok {a : Addr} {ds : List D} {st : Sg → Prop} (h : ∀ F G H S, Ex G0 G → Wd K F G H S → st S → ∃ xs, SqL K H a xs ∧ RpL K G xs ds) : ItOk K (Itl K a) G0 ds st := fun F i G H S e W hs => by
  obtain ⟨xs, q, r⟩ := h F G H S e W hs
  refine ⟨fun d hd => ?_, fun hl => ⟨xs, q, by rw [r.length]; exact hl⟩⟩
  obtain ⟨v, hv, rv⟩ := r.get hd
  refine ⟨⟨xs, v, q, hv⟩, fun x H' y => ?_⟩
  obtain ⟨rfl, y⟩ := y
  have := y xs q
  rw [hv] at this
  cases this
  exact ⟨G, Ex.refl G, W, rv⟩
theorem itt_ok {a : Addr} {ds : List D} {st : Sg → Prop} (h : ∀ F G H S, Ex G0 G → Wd K F G H S → st S → ∃ xs, SqT K H a xs ∧ RpL K G xs ds) : ItOk K (Itt K a) G0 ds st := fun F i G H S e W hs => by
  obtain ⟨xs, q, r⟩ := h F G H S e W hs
  refine ⟨fun d hd => ?_, fun hl => ⟨xs, q, by rw [r.length]; exact hl⟩⟩
  obtain ⟨v, hv, rv⟩ := r.get hd
  refine ⟨⟨xs, v, q, hv⟩, fun x H' y => ?_⟩
  obtain ⟨rfl, y⟩ := y
  have := y xs q
  rw [hv] at this
  cases this
  exact ⟨G, Ex.refl G, W, rv⟩
end
theorem its_ok {K : PySem.W.Frag} {G0 : Hp} {z : Str} {st : Sg → Prop} : ItOk K (Its z) G0 (z.cps.toList.map fun c => .str ⟨#[c]⟩) st := fun F i G H S e W hs => by
  refine ⟨fun d hd => ?_, fun hl => ?_⟩
  · rw [List.getElem?_map] at hd
    cases ec : z.cps.toList[i]? with
    | none => rw [ec] at hd; cases hd
    | some c =>
      rw [ec] at hd
      cases hd
      have e2 : z.cps[i]? = some c := by rw [← Array.getElem?_toList]; exact ec
      have hlt : i < z.cps.size := (Array.getElem?_eq_some_iff.mp e2).1
      refine ⟨hlt, fun x H' y => ?_⟩
      obtain ⟨rfl, c', hc, rfl⟩ := y
      rw [e2] at hc
      cases hc
      exact ⟨G, Ex.refl G, W, .str _⟩
  · show z.cps.size ≤ i
    simpa using hl
theorem le_any {K : PySem.W.Frag} {te : TE} {de : DE} (h : LE K te de) : LI K (iAny K te) (dAny de) := fun F G H σ ρ S P R W E q k => h F G H σ ρ S _ _ W E q fun G1 H1 S1 v x e1 W1 r1 q1 => by
  obtain ⟨ds, st, ew, q1⟩ := q1
  cases r1 with
  | non => cases ew
  | bl => cases ew
  | int => cases ew
  | str z =>
    cases ew
    exact .inr (.inr ⟨z, rfl, k _ G1 H1 S1 _ _ e1 W1 q1 its_ok⟩)
  | tup hq r =>
    cases ew
    exact .inr (.inl ⟨_, rfl, ⟨_, W1.sub.t hq⟩, k _ G1 H1 S1 _ _ e1 W1 q1 (itt_ok fun F G H S e W _ => ⟨_, (e.trans W.sub).t hq, r.mono e⟩)⟩)
  | lst hq r =>
    cases ew
    exact .inl ⟨_, rfl, ⟨_, sq_of (W1.sub _ _ hq)⟩, k _ G1 H1 S1 _ _ e1 W1 q1 (itl_ok fun F G H S e W _ => ⟨_, sq_of (W.sub _ _ (e _ _ hq)), r.mono e⟩)⟩
  | frz hq r => cases ew
  | ref p =>
    simp only [walkOf] at ew
    split at ew
    · rename_i es eS
      cases ew
      obtain ⟨xs, hp, r, g⟩ := W1.lst eS
      refine .inl ⟨p, rfl, ⟨xs, sq_of hp⟩, k _ G1 H1 S1 _ _ e1 W1 q1 (itl_ok fun F G H S e W hs => ?_)⟩
      obtain ⟨ys, hy, r', _⟩ := W.lst hs
      exact ⟨ys, sq_of hy, r'⟩
    · cases ew
theorem ji_any {X : Cx} {K : PySem.W.Frag} {tg e : Expr} {te : TE} {de : DE} (h : JE X e te de) (hK : X.K = K := by rfl) : JI X tg e (iAny K te) (dAny de) := by
  subst hK
  exact ⟨pi_any h.p, le_any h.l⟩
/-! ### ranges -/
def rgD (a b : Int) : List D := (List.range (b - a).toNat).map fun i => .int (a + (i : Nat))
def dRng1 (da : DA) : DI := fun ρ S P => da ρ S fun xs S1 => ∃ n : Int, xs = [.int n] ∧ -(2 ^ 62) ≤ n ∧ n < 2 ^ 62 ∧ P (rgD 0 n) (fun _ => True) S1
def dRng2 (da : DA) : DI := fun ρ S P => da ρ S fun xs S1 => ∃ m n : Int, xs = [.int m, .int n] ∧ (-(2 ^ 62) ≤ m ∧ m < 2 ^ 62 ∧ -(2 ^ 62) ≤ n ∧ n < 2 ^ 62) ∧ P (rgD m n) (fun _ => True) S1
theorem itr_ok {K : PySem.W.Frag} {G0 : Hp} {lo : Int} {n : Nat} {st : Sg → Prop} {ds : List D} (hd : ds = (List.range n).map fun i => .int (lo + (i : Nat))) : ItOk K (Itr lo n) G0 ds st := fun F i G H S e W hs => by
  subst hd
  refine ⟨fun d hd => ?_, fun hl => by show n ≤ i; simpa using hl⟩
  rw [List.getElem?_map] at hd
  cases ec : (List.range n)[i]? with
  | none => rw [ec] at hd; cases hd
  | some c =>
    rw [ec] at hd
    cases hd
    obtain ⟨hi, ei⟩ := List.getElem?_eq_some_iff.mp ec
    rw [List.getElem_range] at ei
    rw [List.length_range] at hi
    subst ei
    refine ⟨hi, fun x H' y => ?_⟩
    obtain ⟨rfl, rfl⟩ := y
    exact ⟨G, Ex.refl G, W, .int _⟩
theorem ji_range1 {X : Cx} {tg a : Expr} {ta : TA} {da : DA} {p pos : Pos} (hg : Gl X "range") (hm : X.mg "range" = none) (ha : JA X [a] ta da) (hs : starEach [a] X.env = [(false, eval a X.env)] := by rfl) : JI X tg (.Call (.Name "range" p) [a] [] pos) (iRng1 ta) (dRng1 da) :=
  ⟨pi_range1 hg hm ha.p hs, fun F G H σ ρ S P R W E q k => ha.l F G H σ ρ S _ _ W E q fun G1 H1 S1 vs xs e1 W1 r1 q1 => by
    obtain ⟨n, rfl, h1, h2, q1⟩ := q1
    obtain rfl := r1.ints (ns := [n])
    refine ⟨n, rfl, h1, h2, k _ G1 H1 S1 _ _ e1 W1 q1 (itr_ok (by unfold rgD; rw [Int.sub_zero]))⟩⟩
theorem ji_range2 {X : Cx} {tg a b : Expr} {ta : TA} {da : DA} {p pos : Pos} (hg : Gl X "range") (hm : X.mg "range" = none) (ha : JA X [a, b] ta da) (hs : starEach [a, b] X.env = [(false, eval a X.env), (false, eval b X.env)] := by rfl) (hs2 : starEach [b] X.env = [(false, eval b X.env)] := by rfl) : JI X tg (.Call (.Name "range" p) [a, b] [] pos) (iRng2 ta) (dRng2 da) :=
  ⟨pi_range2 hg hm ha.p hs hs2, fun F G H σ ρ S P R W E q k => ha.l F G H σ ρ S _ _ W E q fun G1 H1 S1 vs xs e1 W1 r1 q1 => by
    obtain ⟨m, n, rfl, h, q1⟩ := q1
    obtain rfl := r1.ints (ns := [m, n])
    exact ⟨m, n, rfl, h, k _ G1 H1 S1 _ _ e1 W1 q1 (itr_ok rfl)⟩⟩
/-! ### enumerate -/
def enD (ds : List D) : List D := (List.range ds.length).map fun i => .tup [.int (i : Nat), ds.getD i .non]
def dEnum (da : DA) : DI := fun ρ S P => da ρ S fun xs S1 => ∃ x ds st, xs = [x] ∧ lstOf S1 x = some ds ∧ walkOf S1 x = some (ds, st) ∧ P (enD ds) st S1
/-! ### comprehensions -/
theorem wipe_get (σ : L2.St) : ∀ (vs : List Nat) (j : Nat), (wipe σ vs)[j]? = if j ∈ vs then (σ[j]?).map fun _ => none else σ[j]?
  | [], j => by simp [wipe]
  | v :: vs, j => by
    unfold wipe
    rw [List.getElem?_set, wipe_length, wipe_get σ vs j]
    by_cases h : v = j
    · subst h
      by_cases hl : v < σ.length
      · simp [hl]
      · simp [hl]
    · have h' : ¬ j = v := fun q => h q.symm
      simp [h, h']
theorem wipe_ext {σ σ' : L2.St} {vs : List Nat} (h : ∀ j, j ∉ vs → σ[j]? = σ'[j]?) (hl : σ.length = σ'.length) : wipe σ vs = wipe σ' vs := by
  refine List.ext_getElem? fun j => ?_
  rw [wipe_get, wipe_get]
  by_cases hj : j ∈ vs
  · rw [if_pos hj, if_pos hj]
    by_cases q : j < σ.length
    · rw [List.getElem?_eq_getElem q, List.getElem?_eq_getElem (hl ▸ q)]; rfl
    · rw [List.getElem?_eq_none (by omega), List.getElem?_eq_none (by omega)]
  · rw [if_neg hj, if_neg hj]; exact h j hj
theorem wipe_set {σ : L2.St} {vs : List Nat} {i : Nat} {x : Option V} (h : i ∈ vs) : wipe (σ.set i x) vs = wipe σ vs :=
  wipe_ext (fun j hj => by rw [List.getElem?_set, if_neg (fun q : i = j => hj (q ▸ h))]) (by simp)
theorem wipe_wipe (σ : L2.St) (vs : List Nat) : wipe (wipe σ vs) vs = wipe σ vs :=
  wipe_ext (fun j hj => by rw [wipe_get, if_neg hj]) (wipe_length σ vs)
/-- the target stores into the block's own names alone -/
def GOwn (vs : List Nat) (g : TG) : Prop := ∀ v σ H (Q Q' : L2.St → Hp → Prop), g v σ H Q → (∀ σ2 H2, wipe σ2 vs = wipe σ vs → Q σ2 H2 → Q' σ2 H2) → g v σ H Q'
def GOwns (vs : List Nat) (g : TGs) : Prop := ∀ v σ H (Q Q' : L2.St → Hp → Prop), g v σ H Q → (∀ σ2 H2, wipe σ2 vs = wipe σ vs → Q σ2 H2 → Q' σ2 H2) → g v σ H Q'
theorem own_name {vs : List Nat} {i : Nat} (h : i ∈ vs) : GOwn vs (gName i) := fun v σ H Q Q' q k => k _ H (wipe_set h) q
theorem own_nil {vs : List Nat} : GOwns vs gNil := fun v σ H Q Q' q k => ⟨q.1, k σ H rfl q.2⟩
theorem own_cons {vs : List Nat} {g : TG} {u : TGs} (h : GOwn vs g) (h' : GOwns vs u) : GOwns vs (gCons g u) := fun v σ H Q Q' q k => by
  obtain ⟨x, r, e, q⟩ := q
  exact ⟨x, r, e, h _ _ _ _ _ q fun σ2 H2 e2 q2 => h' _ _ _ _ _ q2 fun σ3 H3 e3 q3 => k σ3 H3 (e3.trans e2) q3⟩
theorem own_tup {vs : List Nat} {K : PySem.W.Frag} {n : Nat} {u : TGs} (h : GOwns vs u) : GOwn vs (gTup K n u) := fun v σ H Q Q' q k => by
  obtain ⟨a, xs, e, hq, hl, q⟩ := q
  exact ⟨a, xs, e, hq, hl, h _ _ _ _ _ q k⟩
def lcD (dg : DG) (dt : DT) (de : DE) (ρ0 : Rho) (st : Sg → Prop) (P : List D → Sg → Prop) : List D → List D → Sg → Prop
  | [], acc, S => st S ∧ P acc S
  | x :: xs, acc, S => st S ∧ dg x ρ0 S fun ρ1 S1 => dt ρ1 S1 fun b S2 => if b = true then de ρ1 S2 fun y S3 => acc.length < sizeLine ∧ lcD dg dt de ρ0 st P xs (acc ++ [y]) S3 else lcD dg dt de ρ0 st P xs acc S2
def dLc (di : DI) (dg : DG) (dt : DT) (de : DE) (vs : List Nat) : DL := fun ρ S P => di ρ S fun ds st S1 => lcD dg dt de (wipeD ρ vs) st P ds [] S1
theorem LL.lc {K : PySem.W.Frag} {wi : TI} {di : DI} {g : TG} {dg : DG} {tt : TT} {dt : DT} {te : TE} {de : DE} {vs : List Nat} (hi : LI K wi di) (hg : LG K g dg) (ho : GOwn vs g) (ht : LT K tt dt) (he : LE K te de) : LL K (tLc wi g tt te vs) (dLc di dg dt de vs) :=
  fun F G H σ ρ S P Q W E q post => hi F G H σ ρ S _ _ W E q fun J G1 H1 S1 ds st e1 W1 q1 ok Dl hD => by
    have W1' : Wd K (upd F Dl (.lst [])) G1 (upd H1 Dl (.lst [])) S1 := W1.newF hD
    have fF : F Dl = none := W1.freeF hD
    let Inv : Nat → Hp → Prop := fun i H => ∃ G2 S2 us acc, Ex G1 G2 ∧ Wd K (upd F Dl (.lst us)) G2 H S2 ∧ RpL K G2 us acc ∧ lcD dg dt de (wipeD ρ vs) st P (ds.drop i) acc S2
    refine ⟨fun i m H => m = ds.length - i ∧ i ≤ ds.length ∧ Inv i H, ⟨ds.length, rfl, Nat.zero_le _, G1, S1, [], [], Ex.refl _, W1', .nil, q1⟩, ?_⟩
    rintro i m H2 ⟨rfl, hi, G2, S2, us, acc, e2, W2, r2, q2⟩
    have E2 : ER K G2 (wipe σ vs) (wipeD ρ vs) := (E.mono (e1.trans e2)).wipe vs
    by_cases hlt : i < ds.length
    · rw [List.drop_eq_getElem_cons hlt] at q2
      obtain ⟨hst, q2⟩ := q2
      obtain ⟨go, yld⟩ := (ok _ i G2 H2 S2 e2 W2 hst).1 ds[i] (List.getElem?_eq_getElem hlt)
      refine .inr ⟨go, Inv (i + 1), fun H' h => ⟨ds.length - (i + 1), by omega, rfl, hlt, h⟩, fun x H3 y => ?_⟩
      obtain ⟨G3, e3, W3, r3⟩ := yld x H3 y
      refine ho _ _ _ _ _ (hg _ G3 H3 (wipe σ vs) (wipeD ρ vs) S2 x ds[i] _ (fun σ4 H4 => tt σ4 H4 fun b H5 => if b = true then te σ4 H5 fun y H6 => ∃ acc, H6 Dl = some (.lst acc) ∧ acc.length < sizeLine ∧ Inv (i + 1) (upd H6 Dl (.lst (acc ++ [y]))) else Inv (i + 1) H5) W3 (E2.mono e3) r3 q2 fun G4 H4 S4 σ4 ρ4 e4 W4 E4 q4 => ?_) fun σ4 H4 ew q4 => ⟨ew.trans (wipe_wipe σ vs), q4⟩
      refine ht _ G4 H4 σ4 ρ4 S4 _ _ W4 E4 q4 fun G5 H5 S5 b b' e5 W5 eb q5 => ?_
      subst eb
      cases b with
      | true =>
        rw [if_pos rfl] at q5 ⊢
        refine he _ G5 H5 σ4 ρ4 S5 _ _ W5 (E4.mono e5) q5 fun G6 H6 S6 v d e6 W6 r6 q6 => ?_
        have hu := (W6.frm Dl (.lst us) upd_same).1
        have r26 : RpL K G6 us acc := r2.mono (((e3.trans e4).trans e5).trans e6)
        have W7 : Wd K (upd F Dl (.lst (us ++ [v]))) G6 (upd H6 Dl (.lst (us ++ [v]))) S6 := by
          have := W6.chF (p := Dl) (o' := .lst (us ++ [v])) upd_same
          rw [upd_upd] at this
          exact this
        exact ⟨us, hu, by rw [r26.length]; exact q6.1, G6, S6, us ++ [v], acc ++ [d], (((e2.trans e3).trans e4).trans e5).trans e6, W7, r26.snoc r6, q6.2⟩
      | false =>
        rw [if_neg Bool.false_ne_true] at q5 ⊢
        exact ⟨G5, S5, us, acc, ((e2.trans e3).trans e4).trans e5, W5, r2.mono ((e3.trans e4).trans e5), q5⟩
    · have e : i = ds.length := by omega
      subst e
      rw [List.drop_length] at q2
      refine .inl ⟨(ok _ _ G2 H2 S2 e2 W2 q2.1).2 (Nat.le_refl _), ?_⟩
      obtain ⟨hh, hg2, hs2⟩ := W2.frm Dl (.lst us) upd_same
      exact post G2 H2 S2 Dl us acc (e1.trans e2) (W2.lessF (Ex.new fF)) hg2 hs2 fF hh r2 q2.2
structure JTs (X : Cx) (ifs : List Expr) (t : TT) (d : DT) : Prop where
  p : PTs X ifs t
  l : LT X.K t d
def dYes : DT := fun _ S P => P true S
theorem jts_nil {X : Cx} : JTs X [] tYes dYes := ⟨pts_nil, fun F G H σ ρ S P Q W E q post => post G H S true true (Ex.refl G) W rfl q⟩
theorem jts_one {X : Cx} {c : Expr} {t : TT} {d : DT} (h : JT X c t d) : JTs X [c] t d := ⟨pts_one h.p, h.l⟩
section
variable {X : Cx} {elt tg iter : Expr} {ifs : List Expr} {scope : Scope} {own : List (Str × Nat)} {pos spos : Pos} {wi : TI} {di : DI} {g : TG} {dg : DG} {tt : TT} {dt : DT} {te : TE} {de : DE}
theorem jl_lc (hc : X.calm = true) (hN : X.N.Nodup) (hi : JI X tg iter wi di) (ok : BlkOk X.N X.env.scope scope own) (ho : GOwn (own.map (·.2)) g)
    (hg : ∀ (s : Shared) (H : Hp) (C : Addr) (cl : List (Str × Addr)) (fp : List Addr), JG (X.blk s H scope (compEnvC scope cl C X.env) fp) tg g dg) (ht : ∀ (s : Shared) (H : Hp) (C : Addr) (cl : List (Str × Addr)) (fp : List Addr), JTs (X.blk s H scope (compEnvC scope cl C X.env) fp) ifs tt dt)
    (he : ∀ (s : Shared) (H : Hp) (C : Addr) (cl : List (Str × Addr)) (fp : List Addr), JE (X.blk s H scope (compEnvC scope cl C X.env) fp) elt te de) (hs : ∀ x, foldedSetIterable iter X.env x = pure x := by intro _; rfl) :
    JL X (.ListComp elt [⟨tg, iter, ifs, 0⟩] scope pos) (tLc wi g tt te (own.map (·.2))) (dLc di dg dt de (own.map (·.2))) := by
  refine ⟨pe_lc hc hN hi.p ok (fun s H C cl fp => (hg s H C cl fp).p) (fun s H C cl fp => (ht s H C cl fp).p) (fun s H C cl fp => (he s H C cl fp).p) hs, ?_⟩
  intro F G H
  exact LL.lc hi.l (hg {} H 0 [] []).l ho (ht {} H 0 [] []).l (he {} H 0 [] []).l F G H
end
end DL
/-! DL7: two fors, comprehensions given to a name, enumerate, built-in functions and methods, the promise of a def. -/
namespace DL
open PySem L2 PySem.Spec PyProof.Rows
def lcD2 (dg : DG) (dt : DT) (di1 : DI) (dg1 : DG) (dt1 : DT) (de : DE) (vs1 : List Nat) (ρ0 : Rho) (st : Sg → Prop) (P : List D → Sg → Prop) : List D → List D → Sg → Prop
  | [], acc, S => st S ∧ P acc S
  | x :: xs, acc, S => st S ∧ dg x ρ0 S fun ρ1 S1 => dt ρ1 S1 fun b S2 => if b = true then di1 ρ1 S2 fun ds1 st1 S3 => lcD dg1 dt1 de (wipeD ρ1 vs1) st1 (fun acc' S' => lcD2 dg dt di1 dg1 dt1 de vs1 ρ0 st P xs acc' S') ds1 acc S3
      else lcD2 dg dt di1 dg1 dt1 de vs1 ρ0 st P xs acc S2
def dLc2 (di : DI) (dg : DG) (dt : DT) (di1 : DI) (dg1 : DG) (dt1 : DT) (de : DE) (vs vs1 : List Nat) : DL := fun ρ S P => di ρ S fun ds st S1 => lcD2 dg dt di1 dg1 dt1 de vs1 (wipeD ρ vs) st P ds [] S1
theorem LL.lc2 {K : PySem.W.Frag} {wi wi1 : TI} {di di1 : DI} {g g1 : TG} {dg dg1 : DG} {tt tt1 : TT} {dt dt1 : DT} {te : TE} {de : DE} {vs vs1 : List Nat} (hi : LI K wi di) (hg : LG K g dg) (ho : GOwn vs g) (ht : LT K tt dt)
    (hi1 : LI K wi1 di1) (hg1 : LG K g1 dg1) (ho1 : GOwn vs1 g1) (ht1 : LT K tt1 dt1) (he : LE K te de) : LL K (tLc2 wi g tt wi1 g1 tt1 te vs vs1) (dLc2 di dg dt di1 dg1 dt1 de vs vs1) :=
  fun F G H σ ρ S P Q W E q post => hi F G H σ ρ S _ _ W E q fun J G1 H1 S1 ds st e1 W1 q1 ok Dl hD => by
    have W1' : Wd K (upd F Dl (.lst [])) G1 (upd H1 Dl (.lst [])) S1 := W1.newF hD
    have fF : F Dl = none := W1.freeF hD
    let Inv : Nat → Hp → Prop := fun i H => ∃ G2 S2 us acc, Ex G1 G2 ∧ Wd K (upd F Dl (.lst us)) G2 H S2 ∧ RpL K G2 us acc ∧ lcD2 dg dt di1 dg1 dt1 de vs1 (wipeD ρ vs) st P (ds.drop i) acc S2
    refine ⟨fun i m H => m = ds.length - i ∧ i ≤ ds.length ∧ Inv i H, ⟨ds.length, rfl, Nat.zero_le _, G1, S1, [], [], Ex.refl _, W1', .nil, q1⟩, ?_⟩
    rintro i m H2 ⟨rfl, hi, G2, S2, us, acc, e2, W2, r2, q2⟩
    have E2 : ER K G2 (wipe σ vs) (wipeD ρ vs) := (E.mono (e1.trans e2)).wipe vs
    by_cases hlt : i < ds.length
    · rw [List.drop_eq_getElem_cons hlt] at q2
      obtain ⟨hst, q2⟩ := q2
      obtain ⟨go, yld⟩ := (ok _ i G2 H2 S2 e2 W2 hst).1 ds[i] (List.getElem?_eq_getElem hlt)
      refine .inr ⟨go, Inv (i + 1), fun H' h => ⟨ds.length - (i + 1), by omega, rfl, hlt, h⟩, fun x H3 y => ?_⟩
      obtain ⟨G3, e3, W3, r3⟩ := yld x H3 y
      refine ho _ _ _ (fun σ2 H2 => tt σ2 H2 fun b H3 =>
        if b = true then wi1 σ2 H3 fun J1 H4 => ∃ W1 : Nat → Nat → Hp → Prop, (∃ m, W1 0 m H4) ∧ ∀ j k H, W1 j k H →
          (J1.stop j H ∧ Inv (i + 1) H) ∨ (J1.go j H ∧ ∃ Nx1 : Hp → Prop, (∀ H', Nx1 H' → ∃ k', k' < k ∧ W1 (j + 1) k' H') ∧ ∀ x H', J1.yld j H x H' → g1 x (wipe σ2 vs1) H' fun σ3 H5 => wipe σ3 vs1 = wipe σ2 vs1 ∧ tt1 σ3 H5 fun b H6 =>
            if b = true then te σ3 H6 fun y H7 => ∃ acc, H7 Dl = some (.lst acc) ∧ acc.length < sizeLine ∧ Nx1 (upd H7 Dl (.lst (acc ++ [y]))) else Nx1 H6)
        else Inv (i + 1) H3) _ (hg _ G3 H3 (wipe σ vs) (wipeD ρ vs) S2 x ds[i] _ _ W3 (E2.mono e3) r3 q2 fun G4 H4 S4 σ4 ρ4 e4 W4 E4 q4 => ?_) fun σ4 H4 ew q4 => ⟨ew.trans (wipe_wipe σ vs), q4⟩
      refine ht _ G4 H4 σ4 ρ4 S4 _ _ W4 E4 q4 fun G5 H5 S5 b b' e5 W5 eb q5 => ?_
      subst eb
      cases b with
      | true =>
        rw [if_pos rfl] at q5 ⊢
        refine hi1 _ G5 H5 σ4 ρ4 S5 _ _ W5 (E4.mono e5) q5 fun J1 G6 H6 S6 ds1 st1 e6 W6 q6 ok1 => ?_
        refine ⟨fun j k H => k = ds1.length - j ∧ j ≤ ds1.length ∧ ∃ G7 S7 us acc, Ex G6 G7 ∧ Wd K (upd F Dl (.lst us)) G7 H S7 ∧ RpL K G7 us acc ∧ lcD dg1 dt1 de (wipeD ρ4 vs1) st1 (fun acc' S' => lcD2 dg dt di1 dg1 dt1 de vs1 (wipeD ρ vs) st P (ds.drop (i + 1)) acc' S') (ds1.drop j) acc S7,
          ⟨ds1.length, rfl, Nat.zero_le _, G6, S6, us, acc, Ex.refl _, W6, r2.mono (((e3.trans e4).trans e5).trans e6), q6⟩, ?_⟩
        rintro j k H7 ⟨rfl, hj, G7, S7, us7, acc7, e7, W7, r7, q7⟩
        have E7 : ER K G7 (wipe σ4 vs1) (wipeD ρ4 vs1) := (E4.mono ((e5.trans e6).trans e7)).wipe vs1
        have eG7 : Ex G1 G7 := ((((e2.trans e3).trans e4).trans e5).trans e6).trans e7
        by_cases hlt1 : j < ds1.length
        · rw [List.drop_eq_getElem_cons hlt1] at q7
          obtain ⟨hst1, q7⟩ := q7
          obtain ⟨go1, yld1⟩ := (ok1 _ j G7 H7 S7 e7 W7 hst1).1 ds1[j] (List.getElem?_eq_getElem hlt1)
          refine .inr ⟨go1, fun H => ∃ G7 S7 us acc, Ex G6 G7 ∧ Wd K (upd F Dl (.lst us)) G7 H S7 ∧ RpL K G7 us acc ∧ lcD dg1 dt1 de (wipeD ρ4 vs1) st1 (fun acc' S' => lcD2 dg dt di1 dg1 dt1 de vs1 (wipeD ρ vs) st P (ds.drop (i + 1)) acc' S') (ds1.drop (j + 1)) acc S7,
            fun H' h => ⟨ds1.length - (j + 1), by omega, rfl, hlt1, h⟩, fun x8 H8 y8 => ?_⟩
          obtain ⟨G8, e8, W8, r8⟩ := yld1 x8 H8 y8
          refine ho1 _ _ _ (fun σ3 H5 => tt1 σ3 H5 fun b H6 => if b = true then te σ3 H6 fun y H7 => ∃ acc, H7 Dl = some (.lst acc) ∧ acc.length < sizeLine ∧ (fun H => ∃ G7 S7 us acc, Ex G6 G7 ∧ Wd K (upd F Dl (.lst us)) G7 H S7 ∧ RpL K G7 us acc ∧ lcD dg1 dt1 de (wipeD ρ4 vs1) st1 (fun acc' S' => lcD2 dg dt di1 dg1 dt1 de vs1 (wipeD ρ vs) st P (ds.drop (i + 1)) acc' S') (ds1.drop (j + 1)) acc S7) (upd H7 Dl (.lst (acc ++ [y])))
            else (fun H => ∃ G7 S7 us acc, Ex G6 G7 ∧ Wd K (upd F Dl (.lst us)) G7 H S7 ∧ RpL K G7 us acc ∧ lcD dg1 dt1 de (wipeD ρ4 vs1) st1 (fun acc' S' => lcD2 dg dt di1 dg1 dt1 de vs1 (wipeD ρ vs) st P (ds.drop (i + 1)) acc' S') (ds1.drop (j + 1)) acc S7) H6) _
            (hg1 _ G8 H8 (wipe σ4 vs1) (wipeD ρ4 vs1) S7 x8 ds1[j] _ _ W8 (E7.mono e8) r8 q7 fun G9 H9 S9 σ9 ρ9 e9 W9 E9 q9 => ?_) fun σ9 H9 ew q9 => ⟨ew.trans (wipe_wipe σ4 vs1), q9⟩
          refine ht1 _ G9 H9 σ9 ρ9 S9 _ _ W9 E9 q9 fun G10 H10 S10 b b' e10 W10 eb q10 => ?_
          subst eb
          cases b with
          | true =>
            rw [if_pos rfl] at q10 ⊢
            refine he _ G10 H10 σ9 ρ9 S10 _ _ W10 (E9.mono e10) q10 fun G11 H11 S11 v d e11 W11 r11 q11 => ?_
            have hu := (W11.frm Dl (.lst us7) upd_same).1
            have r12 : RpL K G11 us7 acc7 := r7.mono (((e8.trans e9).trans e10).trans e11)
            have W12 : Wd K (upd F Dl (.lst (us7 ++ [v]))) G11 (upd H11 Dl (.lst (us7 ++ [v]))) S11 := by
              have := W11.chF (p := Dl) (o' := .lst (us7 ++ [v])) upd_same
              rw [upd_upd] at this
              exact this
            exact ⟨us7, hu, by rw [r12.length]; exact q11.1, G11, S11, us7 ++ [v], acc7 ++ [d], (((e7.trans e8).trans e9).trans e10).trans e11, W12, r12.snoc r11, q11.2⟩
          | false =>
            rw [if_neg Bool.false_ne_true] at q10 ⊢
            exact ⟨G10, S10, us7, acc7, ((e7.trans e8).trans e9).trans e10, W10, r7.mono ((e8.trans e9).trans e10), q10⟩
        · have e : j = ds1.length := by omega
          subst e
          rw [List.drop_length] at q7
          exact .inl ⟨(ok1 _ _ G7 H7 S7 e7 W7 q7.1).2 (Nat.le_refl _), G7, S7, us7, acc7, eG7, W7, r7, q7.2⟩
      | false =>
        rw [if_neg Bool.false_ne_true] at q5 ⊢
        exact ⟨G5, S5, us, acc, ((e2.trans e3).trans e4).trans e5, W5, r2.mono ((e3.trans e4).trans e5), q5⟩
    · have e : i = ds.length := by omega
      subst e
      rw [List.drop_length] at q2
      refine .inl ⟨(ok _ _ G2 H2 S2 e2 W2 q2.1).2 (Nat.le_refl _), ?_⟩
      obtain ⟨hh, hg2, hs2⟩ := W2.frm Dl (.lst us) upd_same
      exact post G2 H2 S2 Dl us acc (e1.trans e2) (W2.lessF (Ex.new fF)) hg2 hs2 fF hh r2 q2.2
section
variable {X : Cx} {elt tg iter tg1 iter1 : Expr} {ifs ifs1 : List Expr} {scope : Scope} {own : List (Str × Nat)} {vs1 : List Nat} {pos spos py : Pos} {wi wi1 : TI} {di di1 : DI} {g g1 : TG} {dg dg1 : DG} {tt tt1 : TT} {dt dt1 : DT} {te : TE} {de : DE} {i : Nat} {y : Str}
theorem jl_lc2 (hc : X.calm = true) (hN : X.N.Nodup) (hi : JI X tg iter wi di) (ok : BlkOk X.N X.env.scope scope own) (hv : ∀ i ∈ vs1, i ∈ own.map (·.2)) (ho : GOwn (own.map (·.2)) g) (ho1 : GOwn vs1 g1)
    (hg : ∀ (s : Shared) (H : Hp) (C : Addr) (cl : List (Str × Addr)) (fp : List Addr), JG (X.blk s H scope (compEnvC scope cl C X.env) fp) tg g dg) (ht : ∀ (s : Shared) (H : Hp) (C : Addr) (cl : List (Str × Addr)) (fp : List Addr), JTs (X.blk s H scope (compEnvC scope cl C X.env) fp) ifs tt dt)
    (hi1 : ∀ (s : Shared) (H : Hp) (C : Addr) (cl : List (Str × Addr)) (fp : List Addr), JI (X.blk s H scope (compEnvC scope cl C X.env) fp) tg1 iter1 wi1 di1)
    (hg1 : ∀ (s : Shared) (H : Hp) (C : Addr) (cl : List (Str × Addr)) (fp : List Addr), JG (X.blk s H scope (compEnvC scope cl C X.env) fp) tg1 g1 dg1) (ht1 : ∀ (s : Shared) (H : Hp) (C : Addr) (cl : List (Str × Addr)) (fp : List Addr), JTs (X.blk s H scope (compEnvC scope cl C X.env) fp) ifs1 tt1 dt1)
    (he : ∀ (s : Shared) (H : Hp) (C : Addr) (cl : List (Str × Addr)) (fp : List Addr), JE (X.blk s H scope (compEnvC scope cl C X.env) fp) elt te de) (hs : ∀ x, foldedSetIterable iter X.env x = pure x := by intro _; rfl) (hs1 : ∀ env x, foldedSetIterable iter1 env x = pure x := by intro _ _; rfl) :
    JL X (.ListComp elt [⟨tg, iter, ifs, 0⟩, ⟨tg1, iter1, ifs1, 0⟩] scope pos) (tLc2 wi g tt wi1 g1 tt1 te (own.map (·.2)) vs1) (dLc2 di dg dt di1 dg1 dt1 de (own.map (·.2)) vs1) :=
  ⟨pe_lc2 hc hN hi.p ok hv (fun s H C cl fp => (hg s H C cl fp).p) (fun s H C cl fp => (ht s H C cl fp).p) (fun s H C cl fp => (hi1 s H C cl fp).p) (fun s H C cl fp => (hg1 s H C cl fp).p) (fun s H C cl fp => (ht1 s H C cl fp).p) (fun s H C cl fp => (he s H C cl fp).p) hs hs1,
    fun F G H => LL.lc2 hi.l (hg {} H 0 [] []).l ho (ht {} H 0 [] []).l (hi1 {} H 0 [] []).l (hg1 {} H 0 [] []).l ho1 (ht1 {} H 0 [] []).l (he {} H 0 [] []).l F G H⟩
/-- the parts of y = [..]: a value, a cell -/
theorem js_setLc {t : TE} {d : DL} {gs : List Comprehension} (h : JL X (.ListComp elt gs scope pos) t d) (p : PS X (.Assign [.Name y py] (.ListComp elt gs scope pos) spos) (tAsg t (gName i))) : JS X (.Assign [.Name y py] (.ListComp elt gs scope pos) spos) (tAsg t (gName i)) (dAsg (dVal d) (dgName i)) := ⟨p, LS.asg h.l.val (lg_name i)⟩
theorem js_setLcC {t : TE} {d : DL} {gs : List Comprehension} (h : JL X (.ListComp elt gs scope pos) t d) (p : PS X (.Assign [.Name y py] (.ListComp elt gs scope pos) spos) (tAsg t (gName i))) : JS X (.Assign [.Name y py] (.ListComp elt gs scope pos) spos) (tAsg t (gName i)) (dAsg (dCell d) (dgName i)) := ⟨p, LS.asg h.l.cell (lg_name i)⟩
/-- a comprehension and its store -/
structure JLS (X : Cx) (y : Str) (py spos : Pos) (i : Nat) (e : Expr) (t : TE) (d : DL) : Prop where
  l : LL X.K t d
  p : PS X (.Assign [.Name y py] e spos) (tAsg t (gName i))
theorem jls_lc (hc : X.calm = true) (hN : X.N.Nodup) (hi : JI X tg iter wi di) (ok : BlkOk X.N X.env.scope scope own) (ho : GOwn (own.map (·.2)) g)
    (hg : ∀ (s : Shared) (H : Hp) (C : Addr) (cl : List (Str × Addr)) (fp : List Addr), JG (X.blk s H scope (compEnvC scope cl C X.env) fp) tg g dg) (ht : ∀ (s : Shared) (H : Hp) (C : Addr) (cl : List (Str × Addr)) (fp : List Addr), JTs (X.blk s H scope (compEnvC scope cl C X.env) fp) ifs tt dt)
    (he : ∀ (s : Shared) (H : Hp) (C : Addr) (cl : List (Str × Addr)) (fp : List Addr), JE (X.blk s H scope (compEnvC scope cl C X.env) fp) elt te de)
    (hyl : X.env.scope.names.lookup y = some .local) (hsw : swapsWith (.ListComp elt [⟨tg, iter, ifs, 0⟩] scope pos) (some (.Name y py)) spos.line X.env = pure true) (hy : X.N[i]? = some y := by rfl) (hs : ∀ x, foldedSetIterable iter X.env x = pure x := by intro _; rfl) :
    JLS X y py spos i (.ListComp elt [⟨tg, iter, ifs, 0⟩] scope pos) (tLc wi g tt te (own.map (·.2))) (dLc di dg dt de (own.map (·.2))) :=
  ⟨(jl_lc (pos := pos) hc hN hi ok ho hg ht he hs).l, ps_setLc hc hN hy hyl hsw hi.p ok (fun s H C cl fp => (hg s H C cl fp).p) (fun s H C cl fp => (ht s H C cl fp).p) (fun s H C cl fp => (he s H C cl fp).p) hs⟩
theorem jls_lc2 (hc : X.calm = true) (hN : X.N.Nodup) (hi : JI X tg iter wi di) (ok : BlkOk X.N X.env.scope scope own) (hv : ∀ i ∈ vs1, i ∈ own.map (·.2)) (ho : GOwn (own.map (·.2)) g) (ho1 : GOwn vs1 g1)
    (hg : ∀ (s : Shared) (H : Hp) (C : Addr) (cl : List (Str × Addr)) (fp : List Addr), JG (X.blk s H scope (compEnvC scope cl C X.env) fp) tg g dg) (ht : ∀ (s : Shared) (H : Hp) (C : Addr) (cl : List (Str × Addr)) (fp : List Addr), JTs (X.blk s H scope (compEnvC scope cl C X.env) fp) ifs tt dt)
    (hi1 : ∀ (s : Shared) (H : Hp) (C : Addr) (cl : List (Str × Addr)) (fp : List Addr), JI (X.blk s H scope (compEnvC scope cl C X.env) fp) tg1 iter1 wi1 di1)
    (hg1 : ∀ (s : Shared) (H : Hp) (C : Addr) (cl : List (Str × Addr)) (fp : List Addr), JG (X.blk s H scope (compEnvC scope cl C X.env) fp) tg1 g1 dg1) (ht1 : ∀ (s : Shared) (H : Hp) (C : Addr) (cl : List (Str × Addr)) (fp : List Addr), JTs (X.blk s H scope (compEnvC scope cl C X.env) fp) ifs1 tt1 dt1)
    (he : ∀ (s : Shared) (H : Hp) (C : Addr) (cl : List (Str × Addr)) (fp : List Addr), JE (X.blk s H scope (compEnvC scope cl C X.env) fp) elt te de)
    (hyl : X.env.scope.names.lookup y = some .local) (hsw : swapsWith (.ListComp elt [⟨tg, iter, ifs, 0⟩, ⟨tg1, iter1, ifs1, 0⟩] scope pos) (some (.Name y py)) spos.line X.env = pure true) (hy : X.N[i]? = some y := by rfl) (hs : ∀ x, foldedSetIterable iter X.env x = pure x := by intro _; rfl) (hs1 : ∀ env x, foldedSetIterable iter1 env x = pure x := by intro _ _; rfl) :
    JLS X y py spos i (.ListComp elt [⟨tg, iter, ifs, 0⟩, ⟨tg1, iter1, ifs1, 0⟩] scope pos) (tLc2 wi g tt wi1 g1 tt1 te (own.map (·.2)) vs1) (dLc2 di dg dt di1 dg1 dt1 de (own.map (·.2)) vs1) :=
  ⟨(jl_lc2 (pos := pos) hc hN hi ok hv ho ho1 hg ht hi1 hg1 ht1 he hs hs1).l, ps_setLc2 hc hN hy hyl hsw hi.p ok hv (fun s H C cl fp => (hg s H C cl fp).p) (fun s H C cl fp => (ht s H C cl fp).p) (fun s H C cl fp => (hi1 s H C cl fp).p) (fun s H C cl fp => (hg1 s H C cl fp).p) (fun s H C cl fp => (ht1 s H C cl fp).p) (fun s H C cl fp => (he s H C cl fp).p) hs hs1⟩
theorem JLS.v {e : Expr} {t : TE} {d : DL} (h : JLS X y py spos i e t d) : JS X (.Assign [.Name y py] e spos) (tAsg t (gName i)) (dAsg (dVal d) (dgName i)) := ⟨h.p, LS.asg h.l.val (lg_name i)⟩
theorem JLS.cl {e : Expr} {t : TE} {d : DL} (h : JLS X y py spos i e t d) : JS X (.Assign [.Name y py] e spos) (tAsg t (gName i)) (dAsg (dCell d) (dgName i)) := ⟨h.p, LS.asg h.l.cell (lg_name i)⟩
end
/-! ### enumerate -/
theorem ite_ok {K : PySem.W.Frag} {G0 : Hp} {a : Addr} {ds : List D} {st : Sg → Prop} (h : ∀ F G H S, Ex G0 G → Wd K F G H S → st S → ∃ xs, SqL K H a xs ∧ RpL K G xs ds) : ItOk K (Ite K a) G0 (enD ds) st := fun F i G H S e W hs => by
  obtain ⟨xs, q, r⟩ := h F G H S e W hs
  refine ⟨fun d hd => ?_, fun hl => ⟨xs, q, by rw [r.length]; unfold enD at hl; simpa using hl⟩⟩
  unfold enD at hd
  rw [List.getElem?_map] at hd
  cases ec : (List.range ds.length)[i]? with
  | none => rw [ec] at hd; cases hd
  | some c =>
    rw [ec] at hd
    cases hd
    obtain ⟨hi, ei⟩ := List.getElem?_eq_some_iff.mp ec
    rw [List.getElem_range] at ei
    rw [List.length_range] at hi
    subst ei
    have hdi : ds[i]? = some (ds.getD i .non) := by rw [List.getD_eq_getElem?_getD, List.getElem?_eq_getElem hi]; rfl
    obtain ⟨v, hv, rv⟩ := r.get hdi
    refine ⟨⟨xs, v, q, hv⟩, fun x H' y => ?_⟩
    obtain ⟨T, x', rfl, hT, rfl, y⟩ := y
    have := y xs q
    rw [hv] at this
    cases this
    exact ⟨upd G T (.tup [.int (i : Nat), v]), Ex.new (W.freeG hT), W.newG hT, .tup (st_of upd_same) (.cons (.int _) (.cons (rv.mono (Ex.new (W.freeG hT))) .nil))⟩
theorem ji_enum {X : Cx} {K : PySem.W.Frag} {e : Expr} {ta : TA} {da : DA} {p pos tpos : Pos} {elts : List Expr} {kk : Nat} (hg : Gl X "enumerate") (hm : X.mg "enumerate" = none) (ha : JA X [e] ta da) (hK : X.K = K := by rfl) (hs : starEach [e] X.env = [(false, eval e X.env)] := by rfl) :
    JI X (.Tuple elts kk tpos) (.Call (.Name "enumerate" p) [e] [] pos) (iEnum K ta) (dEnum da) := by
  subst hK
  exact ⟨pi_enum hg hm ha.p hs, fun F G H σ ρ S P R W E q k => ha.l F G H σ ρ S _ _ W E q fun G1 H1 S1 vs xs e1 W1 r1 q1 => by
    obtain ⟨x, ds, st, rfl, el, ew, q1⟩ := q1
    cases r1 with
    | cons r rr =>
      cases rr
      obtain ⟨a, xs, rfl, hp, rp⟩ := lst_rp W1 r el
      refine ⟨a, xs, rfl, sq_of hp, k _ G1 H1 S1 _ _ e1 W1 q1 (ite_ok ?_)⟩
      cases r with
      | lst hq r' =>
        cases ew
        exact fun F G H S e W _ => ⟨_, sq_of (W.sub _ _ (e _ _ hq)), r'.mono e⟩
      | ref p =>
        simp only [walkOf] at ew
        split at ew
        · rename_i es eS
          simp only [lstOf] at el
          rw [eS] at el
          cases el
          cases ew
          exact fun F G H S e W hs => by
            obtain ⟨ys, hy, r', _⟩ := W.lst hs
            exact ⟨ys, sq_of hy, r'⟩
        · cases ew
      | tup => cases el
      | frz => cases el⟩
/-! ### built-in functions -/
def lenP : DCall := fun S xs P => match xs with
  | [.str z] => z.length ≤ sizeLine ∧ P (.int z.length) S
  | [x] => ∃ ds, seqOf S x = some ds ∧ P (.int ds.length) S
  | _ => False
def intP : DCall := fun S xs P => match xs with
  | [.int i] => P (.int i) S
  | [.bl b] => P (.int (if b then 1 else 0)) S
  | _ => False
def strP : DCall := fun S xs P => match xs with
  | [.int i] => i.natAbs.log2 < 1920 ∧ P (.str (toString i)) S
  | _ => False
def max2P : DCall := fun S xs P => match xs with
  | [.int i, .int j] => P (.int (if j > i then j else i)) S
  | _ => False
def min2P : DCall := fun S xs P => match xs with
  | [.int i, .int j] => P (.int (if j < i then j else i)) S
  | _ => False
def maxP : DCall := fun S xs P => match xs with
  | [x] => ∃ ns : List Int, lstOf S x = some (ns.map .int) ∧ 0 < ns.length ∧ ∀ m, m ∈ ns → (∀ y, y ∈ ns → y ≤ m) → P (.int m) S
  | _ => False
def minP : DCall := fun S xs P => match xs with
  | [x] => ∃ ns : List Int, lstOf S x = some (ns.map .int) ∧ 0 < ns.length ∧ ∀ m, m ∈ ns → (∀ y, y ∈ ns → m ≤ y) → P (.int m) S
  | _ => False
def sumP : DCall := fun S xs P => match xs with
  | [x] => ∃ ns : List Int, lstOf S x = some (ns.map .int) ∧ P (.int ns.sum) S
  | _ => False
section
variable {K : PySem.W.Frag}
theorem lc_len : LC K (fun xs H Q => ∃ x n, xs = [x] ∧ LenV K x H n ∧ Q (.int n) H) lenP := fun F G H S xs ds P Q W r h post => by
  unfold lenP at h
  split at h
  · cases r with
    | cons r rr =>
      cases rr; cases r
      exact ⟨_, _, rfl, ⟨h.1, rfl⟩, post G H S _ _ (Ex.refl G) W (.int _) h.2⟩
  · cases r with
    | cons r rr =>
      cases rr
      obtain ⟨ds, e, h⟩ := h
      obtain ⟨p, xs, rfl, q, r'⟩ := seq_rp W r e
      refine ⟨_, ds.length, rfl, ?_, post G H S _ _ (Ex.refl G) W (.int _) h⟩
      rcases q with q | q
      · exact .inl ⟨xs, q, r'.length.symm⟩
      · exact .inr ⟨xs, q, r'.length.symm⟩
  · exact h.elim
theorem lc_int : LC K (fun xs H Q => (∃ i, xs = [.int i] ∧ Q (.int i) H) ∨ ∃ k, xs = [.bl k] ∧ Q (.int (if k then 1 else 0)) H) intP := fun F G H S xs ds P Q W r h post => by
  unfold intP at h
  split at h
  · cases r with
    | cons r rr =>
      cases rr; cases r
      exact .inl ⟨_, rfl, post G H S _ _ (Ex.refl G) W (.int _) h⟩
  · cases r with
    | cons r rr =>
      cases rr; cases r
      exact .inr ⟨_, rfl, post G H S _ _ (Ex.refl G) W (.int _) h⟩
  · exact h.elim
theorem lc_str : LC K (fun xs H Q => ∃ i, xs = [.int i] ∧ i.natAbs.log2 < 1920 ∧ Q (.str (toString i)) H) strP := fun F G H S xs ds P Q W r h post => by
  unfold strP at h
  split at h
  · cases r with
    | cons r rr =>
      cases rr; cases r
      exact ⟨_, rfl, h.1, post G H S _ _ (Ex.refl G) W (.str _) h.2⟩
  · exact h.elim
theorem lc_max2 : LC K (fun xs H Q => ∃ i j, xs = [.int i, .int j] ∧ Q (.int (if j > i then j else i)) H) max2P := fun F G H S xs ds P Q W r h post => by
  unfold max2P at h
  split at h
  · rename_i i j
    obtain rfl := r.ints (ns := [i, j])
    exact ⟨_, _, rfl, post G H S _ _ (Ex.refl G) W (.int _) h⟩
  · exact h.elim
theorem lc_min2 : LC K (fun xs H Q => ∃ i j, xs = [.int i, .int j] ∧ Q (.int (if j < i then j else i)) H) min2P := fun F G H S xs ds P Q W r h post => by
  unfold min2P at h
  split at h
  · rename_i i j
    obtain rfl := r.ints (ns := [i, j])
    exact ⟨_, _, rfl, post G H S _ _ (Ex.refl G) W (.int _) h⟩
  · exact h.elim
theorem one_ints {F G H : Hp} {S : Sg} {vs : List V} {x : D} {ns : List Int} (W : Wd K F G H S) (r : RpL K G vs [x]) (h : lstOf S x = some (ns.map .int)) : ∃ p, vs = [.ref p] ∧ SqL K H p (ns.map .int) := by
  cases r with
  | cons r rr =>
    cases rr
    obtain ⟨p, xs, rfl, hp, r'⟩ := lst_rp W r h
    obtain rfl := r'.ints
    exact ⟨p, rfl, sq_of hp⟩
theorem lc_max : LC K (rMax K) maxP := fun F G H S xs ds P Q W r h post => by
  unfold maxP at h
  split at h
  · obtain ⟨ns, e, hl, h⟩ := h
    obtain ⟨p, rfl, q⟩ := one_ints W r e
    exact ⟨p, ns, rfl, q, hl, fun m h1 h2 => post G H S _ _ (Ex.refl G) W (.int _) (h m h1 h2)⟩
  · exact h.elim
theorem lc_min : LC K (rMin K) minP := fun F G H S xs ds P Q W r h post => by
  unfold minP at h
  split at h
  · obtain ⟨ns, e, hl, h⟩ := h
    obtain ⟨p, rfl, q⟩ := one_ints W r e
    exact ⟨p, ns, rfl, q, hl, fun m h1 h2 => post G H S _ _ (Ex.refl G) W (.int _) (h m h1 h2)⟩
  · exact h.elim
theorem lc_sum : LC K (rSum K) sumP := fun F G H S xs ds P Q W r h post => by
  unfold sumP at h
  split at h
  · obtain ⟨ns, e, h⟩ := h
    obtain ⟨p, rfl, q⟩ := one_ints W r e
    exact ⟨p, ns, rfl, q, post G H S _ _ (Ex.refl G) W (.int _) h⟩
  · exact h.elim
/-- max, min of two numbers or of a list -/
def maxU : DCall := fun S xs P => match xs with
  | [_] => maxP S xs P
  | _ => max2P S xs P
def minU : DCall := fun S xs P => match xs with
  | [_] => minP S xs P
  | _ => min2P S xs P
theorem lc_maxU : LC K (fun xs H Q => rMax K xs H Q ∨ ∃ i j, xs = [.int i, .int j] ∧ Q (.int (if j > i then j else i)) H) maxU := fun F G H S xs ds P Q W r h post => by
  unfold maxU at h
  split at h
  · exact .inl (lc_max F G H S xs _ P Q W r h post)
  · exact .inr (lc_max2 F G H S xs _ P Q W r h post)
theorem lc_minU : LC K (fun xs H Q => rMin K xs H Q ∨ ∃ i j, xs = [.int i, .int j] ∧ Q (.int (if j < i then j else i)) H) minU := fun F G H S xs ds P Q W r h post => by
  unfold minU at h
  split at h
  · exact .inl (lc_min F G H S xs _ P Q W r h post)
  · exact .inr (lc_min2 F G H S xs _ P Q W r h post)
end
/-! lists made by calls -/
def dSorted (da : DA) : DL := fun ρ S P => da ρ S fun xs S1 => ∃ x ns, xs = [x] ∧ lstOf S1 x = some (List.map D.int ns) ∧ ∀ ns' : List Int, ns'.Perm ns → ns'.Pairwise (· ≤ ·) → P (ns'.map .int) S1
def dListOf (da : DA) : DL := fun ρ S P => da ρ S fun xs S1 => ∃ x ds, xs = [x] ∧ seqOf S1 x = some ds ∧ P ds S1
section
variable {X : Cx} {K : PySem.W.Frag} {e : Expr} {es : List Expr} {tr : TA} {dr : DA} {p pos : Pos}
theorem jl_sorted (hg : Gl X "sorted") (hm : X.mg "sorted" = none) (ha : JA X [e] tr dr) (hK : X.K = K := by rfl) (he : starEach [e] X.env = [(false, eval e X.env)] := by rfl) : JL X (.Call (.Name "sorted" p) [e] [] pos) (tCB (rSortedI K) tr) (dSorted dr) := by
  subst hK
  exact ⟨pe_callB cr_sortedI hg hm (by decide +kernel) ha.p (by decide) (by decide) he rfl, fun F G H σ ρ S P Q W E q post => ha.l F G H σ ρ S _ _ W E q fun G1 H1 S1 vs xs e1 W1 r1 q1 => by
    obtain ⟨x, ns, rfl, el, q1⟩ := q1
    obtain ⟨a, rfl, h⟩ := one_ints W1 r1 el
    exact ⟨a, ns, rfl, h, fun ns' l hp hs hl => post G1 _ S1 l _ _ e1 (W1.newH hl) (W1.freeG hl) (W1.free hl) (W1.freeF hl) upd_same (RpL.of_ints ns') (q1 ns' hp hs)⟩⟩
theorem jl_listOf (hg : Gl X "list") (hm : X.mg "list" = none) (ha : JA X [e] tr dr) (hK : X.K = K := by rfl) (he : starEach [e] X.env = [(false, eval e X.env)] := by rfl) : JL X (.Call (.Name "list" p) [e] [] pos) (tCB (fun xs H Q => ∃ p ys, xs = [.ref p] ∧ (SqL K H p ys ∨ SqT K H p ys) ∧ ∀ l, H l = none → Q (.ref l) (upd H l (.lst ys))) tr) (dListOf dr) := by
  subst hK
  exact ⟨pe_callTy call_list_of hg hm (by decide +kernel) ha.p (by decide) (by decide) he rfl, fun F G H σ ρ S P Q W E q post => ha.l F G H σ ρ S _ _ W E q fun G1 H1 S1 vs xs e1 W1 r1 q1 => by
    obtain ⟨x, ds, rfl, el, q1⟩ := q1
    cases r1 with
    | cons r rr =>
      cases rr
      obtain ⟨a, us, rfl, h, r'⟩ := seq_rp W1 r el
      exact ⟨a, us, rfl, h, fun l hl => post G1 _ S1 l _ _ e1 (W1.newH hl) (W1.freeG hl) (W1.free hl) (W1.freeF hl) upd_same r' q1⟩⟩
end
/-! the rules of the built-in functions, K told -/
section
variable {X : Cx} {K : PySem.W.Frag}
theorem cb_len (hK : X.K = K := by rfl) : CallR X (.builtin "len") (fun xs H Q => ∃ x n, xs = [x] ∧ LenV K x H n ∧ Q (.int n) H) := by
  subst hK
  exact call_len
theorem cb_max (hc : X.calm = true := by rfl) (hK : X.K = K := by rfl) : CallR X (.builtin "max") (fun xs H Q => rMax K xs H Q ∨ ∃ i j, xs = [.int i, .int j] ∧ Q (.int (if j > i then j else i)) H) := by
  subst hK
  exact (cr_max hc).or (call_max2 hc)
theorem cb_min (hc : X.calm = true := by rfl) (hK : X.K = K := by rfl) : CallR X (.builtin "min") (fun xs H Q => rMin K xs H Q ∨ ∃ i j, xs = [.int i, .int j] ∧ Q (.int (if j < i then j else i)) H) := by
  subst hK
  exact (cr_min hc).or (call_min2 hc)
theorem cb_sum (hc : X.calm = true := by rfl) (hK : X.K = K := by rfl) : CallR X (.builtin "sum") (rSum K) := by
  subst hK
  exact cr_sum hc
end
end DL
/-! DL8: built-in methods; the promise of a def. -/
namespace DL
open PySem L2 PySem.Spec PyProof.Rows
abbrev DM := Sg → D → List D → (D → Sg → Prop) → Prop
def LM (K : PySem.W.Frag) (r : V → List V → Hp → VK → Prop) (f : DM) : Prop := ∀ F G H S x xs a ds P Q, Wd K F G H S → Rp K G x a → RpL K G xs ds → f S a ds P → Post K F G (Rp K) P Q → r x xs H Q
/-- what the receiver is -/
def OkT (K : PySem.W.Frag) (T : String) (ok : Sg → D → Prop) : Prop := ∀ F G H S x a, Wd K F G H S → Rp K G x a → ok S a → tyV K T x H
def dBM (ok : Sg → D → Prop) (f : DM) (da : DE) (dr : DA) : DE := fun ρ S P => da ρ S fun x S1 => ok S1 x ∧ dr ρ S1 fun xs S2 => f S2 x xs P
def isL (S : Sg) (x : D) : Prop := ∃ ds, lstOf S x = some ds
def isS (_ : Sg) (x : D) : Prop := ∃ z, x = .str z
section
variable {X : Cx} {o e : Expr} {es : List Expr} {to : TE} {do_ : DE} {tr : TA} {dr : DA} {apos cpos : Pos} {T id : String} {name : Str} {r : V → List V → Hp → VK → Prop} {f : DM} {ok : Sg → D → Prop}
theorem okT_L {K : PySem.W.Frag} : OkT K "list" isL := fun F G H S x a W r h => by
  obtain ⟨ds, e⟩ := h
  obtain ⟨p, xs, rfl, hp, _⟩ := lst_rp W r e
  exact .inl ⟨rfl, xs, sq_of hp⟩
theorem okT_S {K : PySem.W.Frag} : OkT K "str" isS := fun F G H S x a W r h => by
  obtain ⟨z, rfl⟩ := h
  cases r
  rfl
theorem je_bm {K : PySem.W.Frag} (pa : PlainAttrs T) (slot : Slot T name id) (hty : typeOf (.builtin id) = pure (.type "method_descriptor")) (hm : MtR X id r) (okt : OkT K T ok) (lm : LM K r f) (ho : JE X o to do_) (ha : JA X (e :: es) tr dr) (hK : X.K = K := by rfl)
    (hbase : attributeBase o name X.env (eval o X.env) = eval o X.env := by rfl)
    (hfew : ((backTo cpos (starEach (e :: es) X.env)).all (fun x => !x.1) && (backToKw cpos (keywordEach [] X.env)).all (fun x => x.1.isSome)
      && decide ((e :: es).length + ([] : List Keyword).length + (if ([] : List Keyword).isEmpty then 0 else 1) < 30)) = true := by rfl)
    (hline : (apos.endLine == cpos.line) = true := by rfl) (hs : starEach (e :: es) X.env = (false, eval e X.env) :: starEach es X.env := by rfl) (hplain : (backTo cpos (starEach es X.env)).any (·.1) = false := by rfl) :
    JE X (.Call (.Attribute o name apos) (e :: es) [] cpos) (tBM K T r to tr) (dBM ok f do_ dr) := by
  subst hK
  exact ⟨pe_bm pa slot hty hm ho.p ha.p hbase hfew hline hs hplain, fun F G H σ ρ S P Q W E q post => ho.l F G H σ ρ S _ _ W E q fun G1 H1 S1 v x e1 W1 r1 q1 =>
    ⟨okt F G1 H1 S1 v x W1 r1 q1.1, ha.l F G1 H1 σ ρ S1 _ _ W1 (E.mono e1) q1.2 fun G2 H2 S2 vs xs e2 W2 r2 q2 => lm F G2 H2 S2 v vs x xs _ _ W2 (r1.mono e2) r2 q2 (post.mono (e1.trans e2))⟩⟩
theorem je_bm0 {K : PySem.W.Frag} (pa : PlainAttrs T) (slot : Slot T name id) (hty : typeOf (.builtin id) = pure (.type "method_descriptor")) (hm : MtR X id r) (okt : OkT K T ok) (lm : LM K r f) (ho : JE X o to do_) (hK : X.K = K := by rfl)
    (hbase : attributeBase o name X.env (eval o X.env) = eval o X.env := by rfl) (hline : (apos.endLine == cpos.line) = true := by rfl) :
    JE X (.Call (.Attribute o name apos) [] [] cpos) (tBM0 K T r to) (dBM ok f do_ dNil) := by
  subst hK
  exact ⟨pe_bm0 pa slot hty hm ho.p hbase hline, fun F G H σ ρ S P Q W E q post => ho.l F G H σ ρ S _ _ W E q fun G1 H1 S1 v x e1 W1 r1 q1 =>
    ⟨okt F G1 H1 S1 v x W1 r1 q1.1, lm F G1 H1 S1 v [] x [] _ _ W1 r1 .nil q1.2 (post.mono e1)⟩⟩
end
/-- cells of lists: append, pop, pop(i), extend -/
def appendP : DM := fun S x xs P => ∃ p ds d, x = .ref p ∧ S p = some (.lst ds) ∧ xs = [d] ∧ ds.length < sizeLine ∧ P .non (put S p (.lst (ds ++ [d])))
def popP : DM := fun S x xs P => ∃ p ds d, x = .ref p ∧ S p = some (.lst ds) ∧ xs = [] ∧ ds[ds.length - 1]? = some d ∧ P d (put S p (.lst ds.dropLast))
def popAtP : DM := fun S x xs P => ∃ p ds i k d, x = .ref p ∧ S p = some (.lst ds) ∧ xs = [.int i] ∧ -(2 ^ 63) ≤ i ∧ i < 2 ^ 63 ∧ seqIndex? i ds.length = some k ∧ ds[k]? = some d ∧ P d (put S p (.lst (ds.eraseIdx k)))
def extendP : DM := fun S x xs P => ∃ p ds y es, x = .ref p ∧ S p = some (.lst ds) ∧ xs = [y] ∧ lstOf S y = some es ∧ ds.length + es.length ≤ sizeLine ∧ P .non (put S p (.lst (ds ++ es)))
def indexP : DM := fun S x xs P => ∃ ds d j, lstOf S x = some ds ∧ xs = [d] ∧ (D.lst ds).ok = true ∧ d.ok = true ∧ ds[j]? = some d ∧ (∀ m : Nat, m < j → ds[m]? ≠ some d) ∧ P (.int (j : Nat)) S
def findP : DM := fun S x xs P => ∃ a b, x = .str a ∧ xs = [.str b] ∧ P (.int (Txt.find a b)) S
section
variable {K : PySem.W.Frag}
theorem lm_append : LM K rAppend appendP := fun F G H S x xs a ds P Q W rx rs h post => by
  obtain ⟨p, es, d, rfl, eS, rfl, hl, h⟩ := h
  cases rx
  cases rs with
  | cons r rr =>
    cases rr
    obtain ⟨us, hp, r', g⟩ := W.lst eS
    exact ⟨p, us, _, rfl, rfl, hp, by rw [r'.length]; exact hl, post G _ _ _ _ (Ex.refl G) (W.put g (W.cellF eS) (.lst (r'.snoc r))) .non h⟩
theorem RpL.dropLast {G : Hp} {vs : List V} {ds : List D} (r : RpL K G vs ds) : RpL K G vs.dropLast ds.dropLast := by
  rw [List.dropLast_eq_take, List.dropLast_eq_take, r.length]
  exact r.take _
theorem lm_pop : LM K rPop popP := fun F G H S x xs a ds P Q W rx rs h post => by
  obtain ⟨p, es, d, rfl, eS, rfl, hl, h⟩ := h
  cases rx
  cases rs
  obtain ⟨us, hp, r', g⟩ := W.lst eS
  obtain ⟨v, hv, rv⟩ := r'.get hl
  exact ⟨p, us, v, rfl, rfl, hp, by rw [r'.length]; exact hv, post G _ _ _ _ (Ex.refl G) (W.put g (W.cellF eS) (.lst r'.dropLast)) rv h⟩
theorem lm_popAt : LM K rPopAt popAtP := fun F G H S x xs a ds P Q W rx rs h post => by
  obtain ⟨p, es, i, k, d, rfl, eS, rfl, h1, h2, hk, hl, h⟩ := h
  cases rx
  obtain rfl := rs.ints (ns := [i])
  obtain ⟨us, hp, r', g⟩ := W.lst eS
  obtain ⟨v, hv, rv⟩ := r'.get hl
  exact ⟨p, us, i, k, v, rfl, rfl, hp, h1, h2, by rw [r'.length]; exact hk, hv, post G _ _ _ _ (Ex.refl G) (W.put g (W.cellF eS) (.lst (r'.eraseIdx k))) rv h⟩
theorem lm_extend : LM K rExtend extendP := fun F G H S x xs a ds P Q W rx rs h post => by
  obtain ⟨p, es, y, zs, rfl, eS, rfl, el, hl, h⟩ := h
  cases rx
  cases rs with
  | cons r rr =>
    cases rr
    obtain ⟨us, hp, r', g⟩ := W.lst eS
    obtain ⟨b, ws, rfl, hb, rb⟩ := lst_rp W r el
    exact ⟨p, b, us, ws, rfl, rfl, hp, hb, by rw [r'.length, rb.length]; exact hl, post G _ _ _ _ (Ex.refl G) (W.put g (W.cellF eS) (.lst (r'.append rb))) .non h⟩
theorem D.ok_mem {ds : List D} (h : (D.lst ds).ok = true) {d : D} (hd : d ∈ ds) : d.plain = true := by
  have := D.ok_plain h
  simp [D.plain, D.plainL_all] at this
  exact this d hd
theorem lst_dp {F G H : Hp} {S : Sg} {v : V} {x : D} {ds : List D} (W : Wd K F G H S) (r : Rp K G v x) (h : lstOf S x = some ds) (hd : (D.lst ds).ok = true) : Dp K H v (.list (D.pyL ds)) := by
  obtain ⟨p, xs, rfl, hp, r'⟩ := lst_rp W r h
  have := D.ok_plain hd
  exact .lst (sq_of hp) (r'.dp W.sub (by simpa [D.plain] using this))
theorem lm_index : LM K (rIndexD K) indexP := fun F G H S x xs a ds P Q W rx rs h post => by
  obtain ⟨es, d, j, el, rfl, h1, h2, hj, hn, h⟩ := h
  cases rs with
  | cons r rr =>
    cases rr
    have hx := lst_dp W rx el h1
    obtain ⟨p, us, rfl, hp, _⟩ := lst_rp W rx el
    have hs := D.ok_shaped h1
    rw [D.py] at hs
    refine ⟨p, _, d.py, D.pyL es, j, d.py, rfl, rfl, hx, r.dp W.sub (D.ok_plain h2), hs, D.ok_shaped h2, by rw [D.pyL_map, List.getElem?_map, hj]; rfl, by rw [D.eqv_py d d (D.ok_plain h2) (D.ok_plain h2), D.beq_refl], fun m z hm hz => ?_, post G H S _ _ (Ex.refl G) W (.int _) h⟩
    rw [D.pyL_map, List.getElem?_map] at hz
    cases e : es[m]? with
    | none => rw [e] at hz; cases hz
    | some w =>
      rw [e] at hz
      cases hz
      rw [D.eqv_py w d (D.ok_mem h1 (List.mem_of_getElem? e)) (D.ok_plain h2), D.beq_dec]
      exact decide_eq_false fun q => hn m hm (q ▸ e)
theorem lm_find : LM K (fun x xs H Q => ∃ a b, x = .str a ∧ xs = [.str b] ∧ Q (.int (Txt.find a b)) H) findP := fun F G H S x xs a ds P Q W rx rs h post => by
  obtain ⟨a, b, rfl, rfl, h⟩ := h
  cases rx
  obtain rfl := rs.strs (ns := [b])
  exact ⟨a, b, rfl, rfl, post G H S _ _ (Ex.refl G) W (.int _) h⟩
end
theorem mt_indexK {X : Cx} {K : PySem.W.Frag} {k : Nat} (hr : Room k X.A) (hK : X.K = K := by rfl) : MtR X "list.index" (rIndexD K) := by
  subst hK
  exact mt_indexD (by have := hr.un; omega)
/-! ### the promise of a def -/
def startD (N : List Str) (ds : List D) : Rho := ds.map some ++ List.replicate (N.length - ds.length) none
/-- behind the body -/
def DEnds.fin (P : D → Sg → Prop) : DEnds := ⟨fun _ S => P .non S, P, fun _ _ => False, fun _ _ => False⟩
section
variable {P : Program} {w : World} {K : PySem.W.Frag} {mg : Str → Option Value} {base : Heap} {x qual : Str} {st : Stmt} {f : Addr} {fd : FuncData} {N ps : List Str} {k : Nat} {dsp : DSp} {d : DS}
/-- the body's derivation, in every context of a call -/
def Body (P : Program) (w : World) (K : PySem.W.Frag) (mg : Str → Option Value) (base : Heap) (k : Nat) (N : List Str) (qual : Str) (st : Stmt) (f : Addr) (d : DS) : Prop :=
  ∀ (cdv : Value) (A : Around) (outer : List Env) (s : Shared) (H : Hp) (E : XK), Room k (A.deeper (envOfC qual (defScope st) s.heap.objs.size f cdv)) → ∃ t, JSs (cxOf CX0 P w K mg base N qual (defScope st) f cdv A outer s H E).nox (defBody st) t d
theorem fn_ok (F : Fun K x qual st f fd) (Sc : FnScope N ps (defScope st)) (hl : ∀ ds S P, dsp ds S P → ds.length = ps.length) (hb : Body P w K mg base k N qual st f d)
    (hd : ∀ ds S P, dsp ds S P → d (DEnds.fin P) (startD N ds) S) : FnOk P w K mg base CX0 (k + 1) f fd ps (liftSp K dsp) := by
  refine F.ok Sc (fun vs H Q E h => ?_) (fun cdv A outer s H vs Q E hr h => ?_)
  · obtain ⟨F', G, S, ds, P', W, r, h, _⟩ := h
    rw [r.length]
    exact hl _ _ _ h
  · obtain ⟨F', G, S, ds, P', W, r, h, post⟩ := h
    obtain ⟨t, J⟩ := hb cdv A outer s H E hr
    refine ⟨t, J.p, J.l F' G H (L2.start N vs) (startD N ds) S (DEnds.fin P') _ W ?_ (hd _ _ _ h) ⟨fun G' H' S' σ ρ e W' E' q => post G' H' S' _ _ e W' .non q, fun G' H' S' v y e W' r' q => post G' H' S' v y e W' r' q, fun _ _ _ _ _ _ _ _ q => q.elim, fun _ _ _ _ _ _ _ _ q => q.elim⟩⟩
    exact ER.start N r
end
end DL
set_option autoImplicit false
/-! DL9: more rules. -/
namespace DL
open PySem L2 PySem.Spec PyProof.Rows
theorem jt_val {X : Cx} {e : Expr} {te : TE} {de : DE} (h : JE X e te de) (he : ∀ whole, isTrue e X.env whole = (do let v ← whole; standAt e.pos; holding [v] (truthy v)) := by intro _; rfl) : JT X e (tB te) (dT de) := ⟨pt_val h.p he, lt_of h.l⟩
theorem jt_w {X : Cx} {e : Expr} {t : TT} {d : DT} (h : JW X e t d) : JT X e t d := h.t
/-- += of ints -/
def iaddP : DOp := fun S a b P => match a, b with | .int i, .int j => P (.int (i + j)) S | _, _ => False
theorem lo_iadd {K : PySem.W.Frag} : LO K (rI0 fun i j => .int (i + j)) iaddP := lo_I0 (g' := fun i j => .int (i + j)) (fun S a b P h => by unfold iaddP at h; split at h; exact ⟨_, _, rfl, rfl, h⟩; exact h.elim) fun _ _ _ => .int _
/-! ### dict displays: a cell -/
def dPairs : List (DE × DE) → Rho → Sg → (List (D × D) → Sg → Prop) → Prop
  | [], _, S, P => P [] S
  | (dk, dv) :: r, ρ, S, P => dk ρ S fun x S1 => dv ρ S1 fun y S2 => dPairs r ρ S2 fun ps S3 => P ((x, y) :: ps) S3
def mergeD (kvs more : List (Key × D)) : List (Key × D) := more.foldl (fun acc kv => putKD acc kv.1 kv.2) kvs
def keysD : List (D × D) → Option (List (Key × D))
  | [] => some []
  | (k, v) :: r => match keyD k, keysD r with
    | some kk, some rr => some ((kk, v) :: rr)
    | _, _ => none
def dDisp (ps : List (DE × DE)) : DE := fun ρ S P => dPairs ps ρ S fun qs S1 => ∃ kvs, keysD qs = some kvs ∧ kvs.length ≤ 15 ∧ ∀ p, S1 p = none → P (.ref p) (put S1 p (.dK (mergeD [] kvs)))
abbrev LPs (K : PySem.W.Frag) : List (TE × TE) → List (DE × DE) → Prop := Paired fun t d => LE K t.1 d.1 ∧ LE K t.2 d.2
abbrev PRp (K : PySem.W.Frag) (G : Hp) : List (V × V) → List (D × D) → Prop := Paired fun t d => Rp K G t.1 d.1 ∧ Rp K G t.2 d.2
section
variable {K : PySem.W.Frag}
theorem le_pairs {ts : List (TE × TE)} {ds : List (DE × DE)} (h : LPs K ts ds) : ∀ F G H σ ρ S (P : List (D × D) → Sg → Prop) (Q : List (V × V) → Hp → Prop), Wd K F G H S → ER K G σ ρ → dPairs ds ρ S P → Post K F G (PRp K) P Q → tPairs ts σ H Q := by
  induction h with
  | nil => exact fun F G H σ ρ S P Q W E q post => post G H S [] [] (Ex.refl G) W .nil q
  | cons h t ih =>
    rename_i a b l1 l2
    obtain ⟨ta, tb⟩ := a
    obtain ⟨da, db⟩ := b
    exact fun F G H σ ρ S P Q W E q post => h.1 F G H σ ρ S _ _ W E q fun G1 H1 S1 v x e1 W1 r1 q1 => h.2 F G1 H1 σ ρ S1 _ _ W1 (E.mono e1) q1 fun G2 H2 S2 u y e2 W2 r2 q2 =>
      ih F G2 H2 σ ρ S2 _ _ W2 (E.mono (e1.trans e2)) q2 fun G3 H3 S3 vs xs e3 W3 r3 q3 => post G3 H3 S3 _ _ ((e1.trans e2).trans e3) W3 (.cons ⟨r1.mono (e2.trans e3), r2.mono e3⟩ r3) q3
theorem keys_rp {G : Hp} {ps : List (V × V)} {qs : List (D × D)} {kds : List (Key × D)} (r : PRp K G ps qs) (h : keysD qs = some kds) : ∃ kvs : List (Key × V), ps = kvs.map (fun kv => (kV kv.1, kv.2)) ∧ KRp K G kvs kds := by
  induction r generalizing kds with
  | nil => cases h; exact ⟨[], rfl, .nil⟩
  | cons a t ih =>
    rename_i p q l1 l2
    obtain ⟨pk, pv⟩ := p
    obtain ⟨qk, qv⟩ := q
    unfold keysD at h
    split at h
    · rename_i kk rr e1 e2
      cases h
      obtain ⟨kvs, e, r⟩ := ih e2
      have ek := keyD_rp a.1 e1
      dsimp only at ek
      exact ⟨(kk, pv) :: kvs, by rw [List.map_cons, e, ek], .cons ⟨rfl, a.2⟩ r⟩
    · cases h
theorem KRp.merge {G : Hp} {more : List (Key × V)} {mds : List (Key × D)} (r : KRp K G more mds) : ∀ {kvs : List (Key × V)} {kds : List (Key × D)}, KRp K G kvs kds → KRp K G (mergeK kvs more) (mergeD kds mds) := by
  induction r with
  | nil => exact fun h => h
  | cons a t ih =>
    rename_i p q l1 l2
    intro kvs kds h
    have := KRp.put (k := p.1) h a.2
    have e : q.1 = p.1 := a.1.symm
    show KRp K G (mergeK (L2.putK kvs p.1 p.2) l1) (mergeD (putKD kds q.1 q.2) l2)
    rw [e]
    exact ih this
end
structure JPs (X : Cx) (pos : Pos) (ks : List (Option Expr)) (vs : List Expr) (ts : List (TE × TE)) (ds : List (DE × DE)) : Prop where
  p : PPs X pos ks vs ts
  l : LPs X.K ts ds
section
variable {X : Cx} {pos : Pos} {k v : Expr} {ks : List (Option Expr)} {vs : List Expr} {ts : List (TE × TE)} {ds : List (DE × DE)} {tk tv : TE} {dk dv : DE}
theorem jps_nil : JPs X pos [] [] [] [] := ⟨pps_nil, .nil⟩
theorem jps_cons (hk : JE X k tk dk) (hv : JE X v tv dv) (h : JPs X pos ks vs ts ds) : JPs X pos (some k :: ks) (v :: vs) ((tk, tv) :: ts) ((dk, dv) :: ds) := ⟨pps_cons hk.p hv.p h.p, .cons ⟨hk.l, hv.l⟩ h.l⟩
theorem je_disp (h : JPs X pos ks vs ts ds) (hall : ks.all (·.isSome) = true := by rfl) (hl : ks.length = vs.length := by rfl) (h0 : ks ≠ [] := by exact fun z => nomatch z) (h15 : ks.length ≤ 15 := by decide) : JE X (.Dict ks vs pos) (tDisp ts) (dDisp ds) :=
  ⟨pe_disp h.p hall hl h0 h15, fun F G H σ ρ S P Q W E q post p hp => by
    have fF := W.freeF hp
    refine le_pairs h.l (upd F p (.dK [])) G (upd H p (.dK [])) σ ρ S _ _ (W.newF hp) E q fun G1 H1 S1 ps qs e1 W1 r1 q1 => ?_
    obtain ⟨kds, ek, hl, q1⟩ := q1
    obtain ⟨kvs, eps, rk⟩ := keys_rp r1 ek
    obtain ⟨hh, hg, hs⟩ := W1.frm p (.dK []) upd_same
    have W2 : Wd X.K F G1 H1 S1 := W1.lessF (Ex.new fF)
    refine ⟨hh, kvs, eps, by rw [Paired.length rk]; exact hl, ?_⟩
    exact post G1 _ (put S1 p _) _ _ e1 (W2.put hg fF (.dK (KRp.merge rk .nil))) (.ref p) (q1 p hs)⟩
end
/-! ### is True, two targets -/
theorem lo_isB {K : PySem.W.Frag} : LO K rIsB isBP := fun F G H S x y a b P Q W rx ry h post => by
  unfold isBP at h
  split at h
  · cases rx; cases ry
    exact ⟨_, _, rfl, rfl, post G H S _ _ (Ex.refl G) W (.bl _) h⟩
  · exact h.elim
theorem lo_notB {K : PySem.W.Frag} : LO K rNotB notBP := fun F G H S x y a b P Q W rx ry h post => by
  unfold notBP at h
  split at h
  · cases rx; cases ry
    exact ⟨_, _, rfl, rfl, post G H S _ _ (Ex.refl G) W (.bl _) h⟩
  · exact h.elim
def dPar (i j : Nat) (da : DA) : DS := fun DD ρ S => da ρ S fun xs S1 => ∃ x y, xs = [x, y] ∧ DD.nx ((ρ.set i (some x)).set j (some y)) S1
theorem js_par {X : Cx} {i j : Nat} {x y : Str} {a b : Expr} {ta : TA} {da : DA} {px py pt pos pt2 : Pos} {kt k2} (ha : JA X [a, b] ta da) (hN : X.N.Nodup) (hc : X.calm = true := by rfl) (hi : X.N[i]? = some x := by rfl) (hj : X.N[j]? = some y := by rfl) (hij : i ≠ j := by decide)
    (hx : X.env.scope.names.lookup x = some .local := by rfl) (hy : X.env.scope.names.lookup y = some .local := by rfl) (hw : swappedStores [.Tuple [.Name x px, .Name y py] kt pt] (.Tuple [a, b] k2 pt2) X.env = pure (some [x, y]) := by rfl) :
    JS X (.Assign [.Tuple [.Name x px, .Name y py] kt pt] (.Tuple [a, b] k2 pt2) pos) (tPar i j ta) (dPar i j da) :=
  ⟨ps_par hc hN hi hj hij hx hy ha.p hw, fun F G H σ ρ S DD D W E q R => ha.l F G H σ ρ S _ _ W E q fun G1 H1 S1 vs xs e1 W1 r1 q1 => by
    obtain ⟨x, y, rfl, q1⟩ := q1
    cases r1 with
    | cons r rr =>
      cases rr with
      | cons r' rr =>
        cases rr
        exact ⟨_, _, rfl, R.nx G1 H1 S1 _ _ e1 W1 (((E.mono e1).set i (v := some _) (d := some x) r).set j (v := some _) (d := some y) r') q1⟩⟩
theorem je_call0 {X : Cx} {P : Program} {w : World} {K : PySem.W.Frag} {mg : Str → Option Value} {base : Heap} {x : Str} {p pos : Pos} {dsp : DSp} {k j : Nat} (f : FnT P w K mg base k x dsp) (hr : Room j X.A) (hk : k ≤ j) (hg : Gl X x) (hP : X.prog = P := by rfl) (hw : X.w = w := by rfl) (hK : X.K = K := by rfl) (hmg : X.mg = mg := by rfl) (hba : X.base = base := by rfl) (hdb : (x == ("__debug__" : Str)) = false := by decide) :
    JE X (.Call (.Name x p) [] [] pos) (tCall (liftSp K dsp) [] E0 tNil) (dCall dsp dNil) := by
  subst hP hw hK hmg hba
  obtain ⟨f, fd, ps, F, hm, hkp, hb⟩ := f.ex
  exact ⟨pe_call0 F (hr.mono hk) hg hm hkp hb .nil pass0 hdb, le_call ja_nil.l⟩
theorem bt_len : bootBuiltins "len" = some (.builtin "len") := by decide +kernel
theorem bt_max : bootBuiltins "max" = some (.builtin "max") := by decide +kernel
theorem bt_min : bootBuiltins "min" = some (.builtin "min") := by decide +kernel
theorem bt_sum : bootBuiltins "sum" = some (.builtin "sum") := by decide +kernel
theorem bt_int : bootBuiltins "int" = some (.type "int") := by decide +kernel
theorem bt_bool : bootBuiltins "bool" = some (.type "bool") := by decide +kernel
theorem bt_str : bootBuiltins "str" = some (.type "str") := by decide +kernel
theorem bt_tuple : bootBuiltins "tuple" = some (.type "tuple") := by decide +kernel
theorem bt_list : bootBuiltins "list" = some (.type "list") := by decide +kernel
theorem bt_dict : bootBuiltins "dict" = some (.type "dict") := by decide +kernel
theorem bt_range : bootBuiltins "range" = some (.type "range") := by decide +kernel
theorem bt_enumerate : bootBuiltins "enumerate" = some (.type "enumerate") := by decide +kernel
theorem bt_sorted : bootBuiltins "sorted" = some (.builtin "sorted") := by decide +kernel
/-! ### isinstance of a built-in type -/
def tyD (S : Sg) : D → Option String
  | .non => some "NoneType"
  | .bl _ => some "bool"
  | .int _ => some "int"
  | .str _ => some "str"
  | .tup _ => some "tuple"
  | .lst _ => some "list"
  | .frz _ => none
  | .ref p => match S p with
    | some (.lst _) => some "list"
    | some (.dK _) => some "dict"
    | _ => none
def isiP (T : String) : DUn := fun S a P => ∃ t, tyD S a = some t ∧ P (.bl (decide (t = T) || (decide (t = "bool") && decide (T = "int")))) S
theorem tyD_rp {K : PySem.W.Frag} {F G H : Hp} {S : Sg} {v : V} {x : D} {t : String} (W : Wd K F G H S) (r : Rp K G v x) (h : tyD S x = some t) : TyX K H v (.type t) := by
  cases r with
  | non => cases h; exact .base .non
  | bl b => cases h; exact .base (.bl b)
  | int i => cases h; exact .base (.int i)
  | str x => cases h; exact .base (.str x)
  | tup q r =>
    cases h
    rcases W.sub.t q with (q | ⟨o, q⟩) | ⟨o, its, n, q, c, _⟩
    · exact .base (.tup q)
    · exact .fTuple q
    · exact .kTuple q c
  | lst q r => cases h; exact .base (.lst (W.sub _ _ q))
  | frz q r => cases h
  | ref p =>
    simp only [tyD] at h
    split at h
    · rename_i ds e
      cases h
      obtain ⟨xs, hp, _⟩ := W.lst e
      exact .base (.lst hp)
    · rename_i ds e
      cases h
      obtain ⟨kvs, hp, _⟩ := W.dK e
      exact .base (.dK hp)
    · cases h
theorem tyD_mem {S : Sg} {x : D} {t : String} (h : tyD S x = some t) : t ∈ ["NoneType", "bool", "int", "str", "tuple", "list", "dict"] := by
  cases x <;> simp only [tyD] at h <;> first | (cases h; done) | (cases h; decide) | (split at h <;> cases h <;> decide)
def kitAll (T : String) : Bool := (["NoneType", "bool", "int", "str", "tuple", "list", "dict"] : List String).all fun t => decide (kitB t T = some (decide (t = T) || (decide (t = "bool") && decide (T = "int"))))
theorem kit_bool : kitAll "bool" = true := by decide +kernel
theorem kit_int : kitAll "int" = true := by decide +kernel
theorem kit_str : kitAll "str" = true := by decide +kernel
theorem kit_tuple : kitAll "tuple" = true := by decide +kernel
theorem kit_list : kitAll "list" = true := by decide +kernel
theorem kit_dict : kitAll "dict" = true := by decide +kernel
theorem je_isi {X : Cx} {K : PySem.W.Frag} {e : Expr} {te : TE} {de : DE} {T : String} {y : Str} {p p2 pos : Pos} (hg : Gl X "isinstance") (hg2 : Gl X y) (hm : X.mg "isinstance" = none) (hm2 : X.mg y = none) (hk : kitAll T = true) (hv : bootBuiltins y = some (.type T)) (he : JE X e te de) (hK : X.K = K := by rfl)
    (hn : y ≠ "__name__" := by decide) (hd : (y == ("__debug__" : Str)) = false := by decide) (hs : starEach [e, .Name y p2] X.env = (false, eval e X.env) :: starEach [.Name y p2] X.env := by rfl) (hs2 : starEach [.Name y p2] X.env = (false, eval (.Name y p2) X.env) :: starEach [] X.env := by rfl)
    (hpl : (backTo pos (starEach [.Name y p2] X.env)).any (·.1) = false := by rfl) :
    JE X (.Call (.Name "isinstance" p) [e, .Name y p2] [] pos) (tCB (rIsi K) (tCons te (tCons (tC (.ty T)) tNil))) (dUn (isiP T) de) := by
  subst hK
  exact ⟨pe_callB call_isi hg hm (by decide +kernel) (pa_cons he.p (pa_cons (pe_bltn hg2 hm2 hv rfl hn hd) pa_nil hs2) hs) (by decide) (by decide) hs hpl, fun F G H σ ρ S P Q W E q post => he.l F G H σ ρ S _ _ W E q fun G1 H1 S1 v x e1 W1 r1 q1 => by
    obtain ⟨t, et, q1⟩ := q1
    refine ⟨v, .ty T, .type t, .type T, _, rfl, .ty T, tyD_rp W1 r1 et, kit_ty (of_decide_eq_true (List.all_eq_true.mp hk t (tyD_mem et))), post G1 H1 S1 _ _ e1 W1 (.bl _) q1⟩⟩
/-! ### a written dict with text keys -/
structure TabD (K : PySem.W.Frag) (mg : Str → Option Value) (w : World) (x : Str) (tab : List (Str × D)) : Prop where
  ex : ∃ d es n, mg x = some (.ref d) ∧ KDict K w d es n ∧ ∀ z, match tab.lookup z with
    | some v => ∃ u v0, PySem.W.nsIn K d z = some (some u) ∧ RelV v0 u ∧ ∀ G, Rp K G v0 v
    | none => PySem.W.nsIn K d z = some none
def dInTab (tab : List (Str × D)) (de : DE) : DE := fun ρ S P => de ρ S fun x S1 => ∃ z, x = .str z ∧ P (.bl (tab.lookup z).isSome) S1
def dNotInTab (tab : List (Str × D)) (de : DE) : DE := fun ρ S P => de ρ S fun x S1 => ∃ z, x = .str z ∧ P (.bl (!(tab.lookup z).isSome)) S1
def dIxTab (tab : List (Str × D)) (de : DE) : DE := fun ρ S P => de ρ S fun x S1 => ∃ z v, x = .str z ∧ tab.lookup z = some v ∧ P v S1
/-- z in the written dict -/
def rInTab (K : PySem.W.Frag) (w : World) (neg : Bool) : R2 := fun y v H Q => ∃ d es n z r, y = .str z ∧ v = .ref d ∧ KDict K w d es n ∧ PySem.W.nsIn K d z = some r ∧ Q (.bl (if neg then !r.isSome else r.isSome)) H
theorem op_inTab {X : Cx} : OpR X (compareOp .In) (rInTab X.K X.w false) := fun pins s σ H x y v u Q I rx ry h => by
  obtain ⟨d, es, n, z, r, e1, e2, D, e3, q⟩ := h
  exact op_in_kd D pins s σ H x y v u Q I rx ry ⟨z, r, e1, e2, e3, q⟩
theorem op_notinTab {X : Cx} : OpR X (compareOp .NotIn) (rInTab X.K X.w true) := fun pins s σ H x y v u Q I rx ry h => by
  obtain ⟨d, es, n, z, r, e1, e2, D, e3, q⟩ := h
  exact op_notIn_kd D pins s σ H x y v u Q I rx ry ⟨z, r, e1, e2, e3, q⟩
section
variable {X : Cx} {K : PySem.W.Frag} {mg : Str → Option Value} {w : World} {e : Expr} {te : TE} {de : DE} {x : Str} {p pos : Pos} {tab : List (Str × D)}
theorem tab_pe (hg : Gl X x) (h : TabD X.K X.mg X.w x tab) (hd : (x == ("__debug__" : Str)) = false := by decide) : PE X (.Name x p) (tGl X.mg x) := by
  obtain ⟨d, es, n, hm, D, ht⟩ := h.ex
  exact PE.weak (pe_glob (v := .ref d) hg hm rfl hd) fun σ H Q h => h _ (.ref d) hm rfl
theorem le_inTab (neg : Bool) (h : TabD K mg w x tab) (he : LE K te de) : LE K (tOp (rInTab K w neg) te (tGl mg x)) (if neg then dNotInTab tab de else dInTab tab de) := fun F G H σ ρ S P Q W E q post => by
  obtain ⟨d, es, n, hm, D, ht⟩ := h.ex
  have q' : de ρ S fun x S1 => ∃ z, x = .str z ∧ P (.bl (if neg then !(tab.lookup z).isSome else (tab.lookup z).isSome)) S1 := by
    cases neg <;> exact q
  refine he F G H σ ρ S _ _ W E q' fun G1 H1 S1 v y e1 W1 r1 q1 u' v' hm' rv => ?_
  rw [hm] at hm'
  cases hm'
  have ev := rv.inj (show RelV (.ref d) (Value.ref d) from rfl)
  subst ev
  obtain ⟨z, rfl, q1⟩ := q1
  cases r1
  have hz := ht z
  cases el : tab.lookup z with
  | none =>
    rw [el] at hz q1
    exact ⟨d, es, n, z, none, rfl, rfl, D, hz, post G1 H1 S1 _ _ e1 W1 (.bl _) q1⟩
  | some y =>
    rw [el] at hz q1
    obtain ⟨u, v0, h1, _⟩ := hz
    exact ⟨d, es, n, z, some u, rfl, rfl, D, h1, post G1 H1 S1 _ _ e1 W1 (.bl _) q1⟩
theorem je_inTab (hg : Gl X x) (h : TabD K mg w x tab) (he : JE X e te de) (hK : X.K = K := by rfl) (hmg : X.mg = mg := by rfl) (hw : X.w = w := by rfl) (hd : (x == ("__debug__" : Str)) = false := by decide) :
    JE X (.Compare e [.In] [.Name x p] pos) (tOp (rInTab K w false) te (tGl mg x)) (dInTab tab de) := by
  subst hK hmg hw
  exact ⟨pe_cmpR op_inTab he.p (tab_pe hg h hd) rfl, le_inTab false h he.l⟩
theorem jt_inTab (hg : Gl X x) (h : TabD K mg w x tab) (he : JE X e te de) (hK : X.K = K := by rfl) (hmg : X.mg = mg := by rfl) (hw : X.w = w := by rfl) (hd : (x == ("__debug__" : Str)) = false := by decide) :
    JT X (.Compare e [.In] [.Name x p] pos) (tTest (tOp (rInTab K w false) te (tGl mg x))) (dT (dInTab tab de)) := by
  subst hK hmg hw
  exact ⟨pt_cmpR op_inTab he.p (tab_pe hg h hd) rfl, lt_of (le_inTab false h he.l)⟩
theorem jt_notinTab (hg : Gl X x) (h : TabD K mg w x tab) (he : JE X e te de) (hK : X.K = K := by rfl) (hmg : X.mg = mg := by rfl) (hw : X.w = w := by rfl) (hd : (x == ("__debug__" : Str)) = false := by decide) :
    JT X (.Compare e [.NotIn] [.Name x p] pos) (tTest (tOp (rInTab K w true) te (tGl mg x))) (dT (dNotInTab tab de)) := by
  subst hK hmg hw
  exact ⟨pt_cmpR op_notinTab he.p (tab_pe hg h hd) rfl, lt_of (le_inTab true h he.l)⟩
theorem je_notinTab (hg : Gl X x) (h : TabD K mg w x tab) (he : JE X e te de) (hK : X.K = K := by rfl) (hmg : X.mg = mg := by rfl) (hw : X.w = w := by rfl) (hd : (x == ("__debug__" : Str)) = false := by decide) :
    JE X (.Compare e [.NotIn] [.Name x p] pos) (tOp (rInTab K w true) te (tGl mg x)) (dNotInTab tab de) := by
  subst hK hmg hw
  exact ⟨pe_cmpR op_notinTab he.p (tab_pe hg h hd) rfl, le_inTab true h he.l⟩
theorem je_ixTab (hg : Gl X x) (h : TabD K mg w x tab) (he : JE X e te de) (hs : PlainIx e) (hK : X.K = K := by rfl) (hmg : X.mg = mg := by rfl) (hw : X.w = w := by rfl) (hd : (x == ("__debug__" : Str)) = false := by decide) : JE X (.Subscript (.Name x p) e pos) (tOp (rIxD K w) (tGl mg x) te) (dIxTab tab de) := by
  subst hK hmg hw
  obtain ⟨d, es, n, hm, D, ht⟩ := h.ex
  have hx : PE X (.Name x p) (tGl X.mg x) := PE.weak (pe_glob (v := .ref d) hg hm rfl hd) fun σ H Q h => h _ (.ref d) hm rfl
  refine ⟨pe_ix ix_kdict hx he.p hs, fun F G H σ ρ S P Q W E q post u v hm' rv => he.l F G H σ ρ S _ _ W E q fun G1 H1 S1 v y e1 W1 r1 q1 => ?_⟩
  rw [hm] at hm'
  cases hm'
  have ev := rv.inj (show RelV (.ref d) (Value.ref d) from rfl)
  subst ev
  obtain ⟨z, y, rfl, el, q1⟩ := q1
  cases r1
  have hz := ht z
  rw [el] at hz
  obtain ⟨u, v0, h1, h2, h3⟩ := hz
  exact ⟨d, z, v0, rfl, rfl, ⟨es, n, u, D.at_, D.lit, h1, h2⟩, post G1 H1 S1 _ _ e1 W1 (h3 G1) q1⟩
end
end DL
set_option autoImplicit false
/-! DLM: reading loops and comprehensions. -/
namespace DL
open PySem L2 PySem.Spec PyProof.Rows
theorem forD_inv {dg : DG} {db : DS} {st : Sg → Prop} {DD : DEnds} {ds : List D} {ρ : Rho} {S : Sg} (I : Nat → Rho → Sg → Prop) (h0 : I 0 ρ S)
    (step : ∀ i ρ S d (N : Rho → Sg → Prop), ds[i]? = some d → I i ρ S → (∀ ρ2 S2, I (i + 1) ρ2 S2 → N ρ2 S2) → st S ∧ dg d ρ S fun ρ1 S1 => db ⟨N, DD.rt, DD.nx, N⟩ ρ1 S1)
    (done : ∀ ρ S, I ds.length ρ S → st S ∧ DD.nx ρ S) : forD dg db st DD ds ρ S := by
  have go : ∀ (n i : Nat) (ρ : Rho) (S : Sg), ds.length - i = n → i ≤ ds.length → I i ρ S → forD dg db st DD (ds.drop i) ρ S := by
    intro n
    induction n with
    | zero =>
      intro i ρ S hn hi h
      have e : i = ds.length := by omega
      subst e
      rw [List.drop_length]
      exact done ρ S h
    | succ n ih =>
      intro i ρ S hn hi h
      have hlt : i < ds.length := by omega
      rw [List.drop_eq_getElem_cons hlt]
      exact step i ρ S ds[i] _ (List.getElem?_eq_getElem hlt) h fun ρ2 S2 h2 => ih (i + 1) ρ2 S2 (by omega) (by omega) h2
  have := go ds.length 0 ρ S (by omega) (by omega) h0
  rwa [List.drop_zero] at this
theorem whileD_inv {dt : DT} {db : DS} {DD : DEnds} (I : Nat → Rho → Sg → Prop)
    (step : ∀ m ρ S (N : Rho → Sg → Prop), I m ρ S → (∀ m' ρ2 S2, m' < m → I m' ρ2 S2 → N ρ2 S2) → dt ρ S fun b S1 => if b = true then db ⟨N, DD.rt, DD.nx, N⟩ ρ S1 else DD.nx ρ S1)
    (mono : ∀ n m ρ S, n ≤ m → whileD dt db DD n ρ S → whileD dt db DD m ρ S) : ∀ n m ρ S, m < n → I m ρ S → whileD dt db DD n ρ S := by
  intro n
  induction n with
  | zero => intro m ρ S h; omega
  | succ n ih =>
    intro m ρ S h hI
    exact step m ρ S _ hI fun m' ρ2 S2 h2 hI2 => ih m' ρ2 S2 (by omega) hI2
theorem lcD_pure {dg : DG} {dt : DT} {de : DE} {ρ0 : Rho} {st : Sg → Prop} {P : List D → Sg → Prop} {S : Sg} (f : D → Bool) (g : D → D) (hst : st S) : ∀ (ds acc : List D),
    (∀ x ∈ ds, ∀ (Ky : D → Sg → Prop) (Kn : Sg → Prop), (f x = true → Ky (g x) S) → (f x = false → Kn S) → dg x ρ0 S fun ρ1 S1 => dt ρ1 S1 fun b S2 => if b = true then de ρ1 S2 Ky else Kn S2) →
    acc.length + ds.length ≤ sizeLine → P (acc ++ (ds.filter f).map g) S → lcD dg dt de ρ0 st P ds acc S
  | [], acc, _, _, h => ⟨hst, by simpa using h⟩
  | x :: xs, acc, hx, hl, h => by
    refine ⟨hst, hx x List.mem_cons_self _ _ (fun e => ?_) (fun e => ?_)⟩
    · refine ⟨by simp only [List.length_cons] at hl; omega, ?_⟩
      refine lcD_pure f g hst xs _ (fun y hy => hx y (List.mem_cons_of_mem _ hy)) (by simp only [List.length_append, List.length_cons, List.length_nil] at hl ⊢; omega) ?_
      rw [List.filter_cons, if_pos e] at h
      simpa using h
    · refine lcD_pure f g hst xs _ (fun y hy => hx y (List.mem_cons_of_mem _ hy)) (by simp only [List.length_cons] at hl; omega) ?_
      rw [List.filter_cons, if_neg (by rw [e]; exact Bool.false_ne_true)] at h
      exact h
/-- no test -/
theorem lcD_map {dg : DG} {de : DE} {ρ0 : Rho} {st : Sg → Prop} {P : List D → Sg → Prop} {S : Sg} (g : D → D) (hst : st S) (ds : List D)
    (hx : ∀ x ∈ ds, ∀ (Ky : D → Sg → Prop), Ky (g x) S → dg x ρ0 S fun ρ1 S1 => de ρ1 S1 Ky) (hl : ds.length ≤ sizeLine) (h : P (ds.map g) S) : lcD dg dYes de ρ0 st P ds [] S := by
  have go : ∀ (ds acc : List D), (∀ x ∈ ds, ∀ (Ky : D → Sg → Prop), Ky (g x) S → dg x ρ0 S fun ρ1 S1 => de ρ1 S1 Ky) → acc.length + ds.length ≤ sizeLine → P (acc ++ ds.map g) S → lcD dg dYes de ρ0 st P ds acc S := by
    intro ds
    induction ds with
    | nil => intro acc _ _ h; exact ⟨hst, by simpa using h⟩
    | cons x xs ih =>
      intro acc hx hl h
      refine ⟨hst, ?_⟩
      have := hx x List.mem_cons_self (fun y S3 => acc.length < sizeLine ∧ lcD dg dYes de ρ0 st P xs (acc ++ [y]) S3) ⟨by simp only [List.length_cons] at hl; omega, ih _ (fun y hy => hx y (List.mem_cons_of_mem _ hy)) (by simp only [List.length_append, List.length_cons, List.length_nil] at hl ⊢; omega) (by simpa using h)⟩
      show dg x ρ0 S fun ρ1 S1 => if true = true then de ρ1 S1 (fun y S3 => acc.length < sizeLine ∧ lcD dg dYes de ρ0 st P xs (acc ++ [y]) S3) else lcD dg dYes de ρ0 st P xs acc S1
      have e : (fun (ρ1 : Rho) (S1 : Sg) => if true = true then de ρ1 S1 (fun y S3 => acc.length < sizeLine ∧ lcD dg dYes de ρ0 st P xs (acc ++ [y]) S3) else lcD dg dYes de ρ0 st P xs acc S1) = fun ρ1 S1 => de ρ1 S1 (fun y S3 => acc.length < sizeLine ∧ lcD dg dYes de ρ0 st P xs (acc ++ [y]) S3) := by
        funext ρ1 S1
        rw [if_pos rfl]
      rw [e]
      exact this
  exact go ds [] hx (by simpa using hl) (by simpa using h)
theorem ixN_nat {n j : Nat} (hj : j < n) : ixN n (j : Int) = some j := by
  unfold ixN
  rw [if_pos (by omega), if_pos (by omega)]
  simp
theorem atI_natD {α : Type} {xs : List α} {j : Nat} {v : α} (h : xs[j]? = some v) : atI xs (j : Int) = some v := by
  unfold atI
  rw [ixN_nat (List.getElem?_eq_some_iff.mp h).1]
  exact h
theorem atI_last {α : Type} {xs : List α} {v : α} (h : xs.getLast? = some v) : atI xs (-1) = some v := by
  unfold atI ixN
  have hl : xs ≠ [] := by
    intro e
    rw [e] at h
    cases h
  have h1 : 0 < xs.length := List.length_pos_iff.mpr hl
  rw [if_neg (by omega), if_pos (by omega)]
  rw [List.getLast?_eq_getElem?] at h
  have e : ((-1 : Int) + (xs.length : Int)).toNat = xs.length - 1 := by omega
  show xs[((-1 : Int) + (xs.length : Int)).toNat]? = some v
  rw [e]
  exact h
theorem mem_rgD {a b : Int} {x : D} (h : x ∈ rgD a b) : ∃ i : Nat, x = .int (a + i) ∧ a + (i : Int) < b := by
  unfold rgD at h
  obtain ⟨i, hi, rfl⟩ := List.mem_map.mp h
  have := List.mem_range.mp hi
  exact ⟨i, rfl, by omega⟩
theorem rgD_len (a b : Int) : (rgD a b).length = (b - a).toNat := by unfold rgD; simp
theorem rgD_get {a b : Int} {i : Nat} (h : (i : Int) < b - a) : (rgD a b)[i]? = some (.int (a + i)) := by
  unfold rgD
  rw [List.getElem?_map, List.getElem?_range (by omega)]
  rfl
theorem rgD_get_inv {a b : Int} {i : Nat} {d : D} (h : (rgD a b)[i]? = some d) : d = .int (a + i) ∧ a + (i : Int) < b := by
  have hl := (List.getElem?_eq_some_iff.mp h).1
  rw [rgD_len] at hl
  rw [rgD_get (by omega)] at h
  cases h
  exact ⟨rfl, by omega⟩
end DL
set_option autoImplicit false
/-! DLH: the head by facts, with one more Bool; facts of the layer out of them. -/
namespace DLH
open PySem PySem.Spec PyProof.Rows L2 DL He
abbrev AlM : Type := AlT × Bool
def obsM (fa : List Fa) (fn : List DefD) (ts : List Tab) (bx : PySem.W.Frag → Bool) (K : PySem.W.Frag) : AlM := (obsT fa fn ts K, bx K)
def valM (fn : List DefD) (ts : List Tab) (w : World) : AlM := (valT fn ts w, true)
def obsMG (n : Nat) (fa : List Fa) (fn : List DefD) (ts : List Tab) (bx : PySem.W.Frag → Bool) (g : Addr → Option Obj) : AlM := obsM fa fn ts bx (frG g (asD g n))
def SaysM (fa : List Fa) (fn : List DefD) (ts : List Tab) (bx : PySem.W.Frag → Bool) (w : World) (K : PySem.W.Frag) : Prop := obsM fa fn ts bx K = valM fn ts w
def hookM (n : Nat) (fa : List Fa) (fn : List DefD) (ts : List Tab) (bx : PySem.W.Frag → Bool) : PySem.W.Hook where
  α := AlM
  obs := fun s => obsMG n fa fn ts bx s.heap.get?
  val := fun w => valM fn ts w
  says := fun w h => ∃ K : PySem.W.Frag, K.In h ∧ SaysM fa fn ts bx w K
  of := fun _ _ e => ⟨_, frG_in, e⟩
  keeps := fun _ _ _ ⟨K, hK, c⟩ k => ⟨K, PySem.W.Frag.In.keeps hK k, c⟩
theorem obsMG_eq {n : Nat} {fa : List Fa} {fn : List DefD} {ts : List Tab} {bx : PySem.W.Frag → Bool} {g : Addr → Option Obj} {s : Shared} (h : ∀ a, g a = s.heap.get? a) : obsMG n fa fn ts bx g = (hookM n fa fn ts bx).obs s := by
  have e : g = s.heap.get? := funext h
  rw [e] <;> rfl
section
variable {fa : List Fa} {fn : List DefD} {ts : List Tab} {bx : PySem.W.Frag → Bool} {w : World} {K : PySem.W.Frag} {h : Heap} {mg : Str → Option Value}
theorem SaysM.t (c : SaysM fa fn ts bx w K) : SaysT fa fn ts w K := congrArg (fun z : AlM => z.1) c
theorem SaysM.d (c : SaysM fa fn ts bx w K) : SaysD fa fn K := c.t.d
theorem SaysM.b (c : SaysM fa fn ts bx w K) : bx K = true := congrArg (fun z : AlM => z.2) c
theorem SaysM.tab (c : SaysM fa fn ts bx w K) (i : Nat) {t : Tab} (h : ts[i]? = some t := by rfl) : dicW K (t.1 K) = some (keysIn w.params t.2) := by
  have e : ts.map (fun t => dicW K (t.1 K)) = ts.map fun t => some (keysIn w.params t.2) := congrArg (fun z : AlT => z.2) c.t
  have e2 : (ts.map fun t => dicW K (t.1 K))[i]? = (ts.map fun t => some (keysIn w.params t.2))[i]? := by rw [e]
  rw [List.getElem?_map, List.getElem?_map, h] at e2
  exact Option.some.inj e2
/-- a def of the text -/
theorem fun_of {x qual : Str} {st : Stmt} {f : Addr} {fd : FuncData} (F : FunD K x qual (defArgs st) (defBody st) (defScope st) [] [] f fd) : Fun K x qual st f fd := by
  obtain ⟨⟨oc, od, dV, kV, doc, pm, an, cdv, ct, osl, e, l, c, hD, hK⟩, kp⟩ := F
  rcases hD with ⟨_, rfl⟩ | ⟨q, _⟩
  · exact ⟨⟨oc, od, kV, doc, pm, an, cdv, ct, osl, e, l, c⟩, kp⟩
  · exact absurd rfl q
theorem clsAt_glo {x : Str} (c : (Fa.glo x).ok K = true) : ClsAt K x (ga K x) := eqO_ok c
theorem fld_of {x f : Str} (c : (Fa.glo x).ok K = true) (c1 : (Fa.cls x).ok K = true) (c2 : (Fa.noat x f).ok K = true) : FldOk K [x] f := fun tag ht C hC => by
  have e : tag = x := by simpa using ht
  subst e
  cases hC.inj (clsAt_glo c)
  exact ⟨cls_ok c1, noat_ok c2⟩
theorem fld_app {cs ds : List Str} {f : Str} (a : FldOk K cs f) (b : FldOk K ds f) : FldOk K (cs ++ ds) f := fun tag ht C hC => by
  rcases List.mem_append.mp ht with h | h
  · exact a tag h C hC
  · exact b tag h C hC
theorem glob_str {x z : Str} (X : K.In h) (G : h.Ns mainGlobals mg) (c : (Fa.str x z).ok K = true) : GlobD K mg x (.str z) := by
  obtain ⟨t, e⟩ := str_ok X G c
  exact ⟨_, .str z, e, ⟨t, rfl⟩, fun _ => .str z⟩
theorem glob_int {x : Str} {i : Int} (X : K.In h) (G : h.Ns mainGlobals mg) (c : (Fa.int x i).ok K = true) : GlobD K mg x (.int i) := by
  obtain ⟨t, e⟩ := int_ok X G c
  exact ⟨_, .int i, e, ⟨t, rfl⟩, fun _ => .int i⟩
/-- flat data as the text has it -/
def dvD : Dv → Option D
  | .non => some .non
  | .bl b => some (.bl b)
  | .int i => some (.int i)
  | .str x => some (.str x)
  | _ => none
def dvsD : List Dv → Option (List D)
  | [] => some []
  | v :: r => match dvD v, dvsD r with
    | some d, some ds => some (d :: ds)
    | _, _ => none
theorem dv_rp {v : Dv} {d : D} (e : dvD v = some d) (G : Hp) : Rp K G (v.v K) d := by
  cases v <;> cases e
  · exact .non
  · exact .bl _
  · exact .int _
  · exact .str _
theorem dvs_rp {vs : List Dv} {ds : List D} (e : dvsD vs = some ds) (G : Hp) : RpL K G (vs.map (Dv.v K)) ds := by
  induction vs generalizing ds with
  | nil => cases e; exact .nil
  | cons v r ih =>
    unfold dvsD at e
    split at e
    · rename_i d ds' e1 e2
      cases e
      exact .cons (dv_rp e1 G) (ih e2)
    · cases e
theorem tup_rp {x : Str} {vs : List Dv} {ds : List D} (c : tupB K x vs = true) (e : dvsD vs = some ds) (G : Hp) : Rp K G (.ref (ga K x)) (.tup ds) := .tup (tupB_ok c G) (dvs_rp e G)
theorem glob_tup {x : Str} {vs : List Dv} {ds : List D} (X : K.In h) (G : h.Ns mainGlobals mg) (g : (Fa.glo x).ok K = true) (c : tupB K x vs = true) (e : dvsD vs = some ds) : GlobD K mg x (.tup ds) :=
  ⟨_, .ref (ga K x), glo_ok X G g, rfl, fun G => tup_rp c e G⟩
/-- a written dict with text keys -/
theorem keys_no {P : Params} {z : Str} : ∀ {l : List DictEntry} {ks : List Str}, l.map keyOf = keysIn P ks → z ∉ ks → l.find? (·.key.isStr z) = none ∧ l.any (·.refKey) = false
  | [], _, _, _ => ⟨rfl, rfl⟩
  | e :: r, [], h, _ => by cases h
  | e :: r, k :: ks, h, hz => by
    have h1 : keyOf e :: r.map keyOf = some (k, PyData.keyHash P k) :: keysIn P ks := h
    injection h1 with h2 h3
    obtain ⟨i1, i2⟩ := keys_no h3 fun q => hz (List.mem_cons_of_mem _ q)
    unfold keyOf at h2
    split at h2
    · rename_i x t q
      have h4 := (Prod.mk.inj (Option.some.inj h2)).1
      subst h4
      refine ⟨?_, ?_⟩
      · rw [List.find?_cons_of_neg]
        · exact i1
        · rw [q]
          intro w
          exact hz (by have : x = z := by simpa [Value.isStr] using w
                       rw [this]; exact List.mem_cons_self)
      · rw [List.any_cons, i2]
        have : e.refKey = false := by
          unfold DictEntry.refKey
          rw [q]
        rw [this]; rfl
    · cases h2
theorem nsIn_no {P : Params} {d : Addr} {ks : List Str} {z : Str} (c : dicW K d = some (keysIn P ks)) (hz : z ∉ ks) : PySem.W.nsIn K d z = some none := by
  unfold dicW at c
  cases q : K.lookup d with
  | none => rw [q] at c; cases c
  | some o =>
    obtain ⟨oc, od, dt, osl⟩ := o
    rw [q] at c
    cases oc with
    | type n =>
      cases od with
      | none =>
        cases dt with
        | dict es m =>
          have h1 : (match decide (n = "dict") && (osl.isEmpty && !(d == sysModules)) with
            | true => some (es.toList.map keyOf)
            | false => none) = some (keysIn P ks) := c
          split at h1
          · obtain ⟨i1, i2⟩ := keys_no (Option.some.inj h1) hz
            unfold PySem.W.nsIn
            rw [q]
            show (match es.toList.find? (·.key.isStr z) with
              | some e => some (some e.val)
              | none => if es.toList.any (·.refKey) then none else some none) = _
            rw [i1, i2]
            rfl
          · cases h1
        | _ => cases c
      | some b => cases dt <;> cases c
    | _ => cases od <;> cases dt <;> cases c
theorem lookup_none_of {α : Type} {l : List (Str × α)} {z : Str} (h : l.lookup z = none) : z ∉ l.map (·.1) := by
  induction l with
  | nil => simp
  | cons p r ih =>
    obtain ⟨k, v⟩ := p
    unfold List.lookup at h
    split at h
    · cases h
    · rename_i e
      have : ¬ z = k := fun q => by rw [q] at e; simp at e
      simp only [List.map_cons, List.mem_cons, not_or]
      exact ⟨this, ih h⟩
theorem lookup_mem_of {α : Type} {l : List (Str × α)} {z : Str} {v : α} (h : l.lookup z = some v) : (z, v) ∈ l := by
  induction l with
  | nil => cases h
  | cons p r ih =>
    obtain ⟨k, u⟩ := p
    unfold List.lookup at h
    split at h
    · rename_i e
      cases h
      have : z = k := by simpa using e
      rw [this]
      exact List.mem_cons_self
    · exact List.mem_cons_of_mem _ (ih h)
/-- tab: the dict's text as data; kvs: as the head tells it -/
theorem tab_of {x : Str} {tab : List (Str × D)} {kvs : List (Str × Dv)} (X : K.In h) (G : h.Ns mainGlobals mg) (g : (Fa.glo x).ok K = true) (c : dicW K (ga K x) = some (keysIn w.params (kvs.map (·.1)))) (cv : valsB K (ga K x) kvs = true)
    (hk : tab.map (·.1) = kvs.map (·.1)) (hv : ∀ z d, (z, d) ∈ tab → ∃ v, (z, v) ∈ kvs ∧ ∀ G, Rp K G (v.v K) d) : TabD K mg w x tab := by
  obtain ⟨es, n, D⟩ := dicW_ok c
  refine ⟨ga K x, es, n, glo_ok X G g, D, fun z => ?_⟩
  cases e : tab.lookup z with
  | none =>
    have := lookup_none_of e
    rw [hk] at this
    exact nsIn_no c this
  | some d =>
    obtain ⟨v, h1, h2⟩ := hv z d (lookup_mem_of e)
    obtain ⟨u, q1, q2⟩ := valsB_ok cv h1
    exact ⟨u, v.v K, q1, q2, h2⟩
end
/-- the start: the script alone -/
theorem wd_start {K : PySem.W.Frag} {H : Hp} (hO : Only H) : Wd K (fun _ => none) H H (fun _ => none) := ⟨Ex.refl H, fun a c e => (nomatch (show (none : Option Cell) = some c from e)), fun a o e => (nomatch (show (none : Option HO) = some o from e))⟩
end DLH
set_option autoImplicit false
namespace DL
open PySem L2 PySem.Spec PyProof.Rows
/-- one statement, then the rest under a name -/
theorem nxt {a u : DS} {DD : DEnds} {ρ : Rho} {S : Sg} (h : ∀ N, N = u DD → a ⟨N, DD.rt, DD.bk, DD.ct⟩ ρ S) : dSeq a u DD ρ S := h _ rfl
theorem nxtE {a u : DS} {DD : DEnds} {ρ : Rho} {S : Sg} (ρ' : Rho) (h1 : ∀ N : Rho → Sg → Prop, N ρ' S → a ⟨N, DD.rt, DD.bk, DD.ct⟩ ρ S) (h2 : u DD ρ' S) : dSeq a u DD ρ S := h1 _ h2
theorem nxtI {a u : DS} {DD : DEnds} {ρ : Rho} {S : Sg} (I : Rho → Sg → Prop) (h1 : ∀ N : Rho → Sg → Prop, (∀ ρ S, I ρ S → N ρ S) → a ⟨N, DD.rt, DD.bk, DD.ct⟩ ρ S) (h2 : ∀ ρ S, I ρ S → u DD ρ S) : dSeq a u DD ρ S := h1 _ h2
theorem dIf_int (t : DT) (a b : Int) : dIf t (dC (.int a)) (dC (.int b)) = fun ρ S P => t ρ S fun c S1 => P (.int (if c = true then a else b)) S1 := by
  funext ρ S P
  unfold dIf dC
  congr 1
  funext c S1
  cases c <;> rfl
theorem rgD_len0 (m : Nat) : (rgD 0 (m : Int)).length = m := by rw [rgD_len]; omega
theorem ifS {c : Bool} {d u : DS} {DD : DEnds} {ρ : Rho} {S : Sg} (h1 : c = true → d DD ρ S) (h2 : c = false → u DD ρ S) : if c = true then d DD ρ S else u DD ρ S := by
  cases c
  · exact h2 rfl
  · exact h1 rfl
/-! equations of the readings -/
section
variable {S : Sg} {ds : List D} {i : Int} {P : D → Sg → Prop} {p : Addr} {z : Str}
theorem ixP_tup : ixP S (.tup ds) (.int i) P = ∃ d, atI ds i = some d ∧ P d S := by simp only [ixP, D.int.injEq, exists_and_left, exists_eq_left']
theorem ixP_lst : ixP S (.lst ds) (.int i) P = ∃ d, atI ds i = some d ∧ P d S := by simp only [ixP, D.int.injEq, exists_and_left, exists_eq_left']
theorem ixP_frz : ixP S (.frz ds) (.int i) P = ∃ d, atI ds i = some d ∧ P d S := by simp only [ixP, D.int.injEq, exists_and_left, exists_eq_left']
theorem ixP_str : ixP S (.str z) (.int i) P = ∃ c, z.length ≤ sizeLine ∧ atI z.cps.toList i = some c ∧ P (.str ⟨#[c]⟩) S := by simp only [ixP, D.int.injEq, exists_and_left, exists_eq_left']
theorem ixP_cell (h : S p = some (.lst ds)) : ixP S (.ref p) (.int i) P = ∃ d, atI ds i = some d ∧ P d S := by simp only [ixP, h, D.int.injEq, exists_and_left, exists_eq_left']
theorem ixP_dict {kvs : List (Key × D)} {b : D} (h : S p = some (.dK kvs)) : ixP S (.ref p) b P = ∃ k d, keyD b = some k ∧ valD kvs k = some d ∧ P d S := by simp only [ixP, h]
theorem seqOf_tup : seqOf S (.tup ds) = some ds := rfl
theorem seqOf_lst : seqOf S (.lst ds) = some ds := rfl
theorem seqOf_frz : seqOf S (.frz ds) = some ds := rfl
theorem lstOf_lst : lstOf S (.lst ds) = some ds := rfl
theorem lstOf_tup : lstOf S (.tup ds) = none := rfl
theorem walkOf_tup : walkOf S (.tup ds) = some (ds, fun _ => True) := rfl
theorem walkOf_lst : walkOf S (.lst ds) = some (ds, fun _ => True) := rfl
theorem walkOf_str : walkOf S (.str z) = some (z.cps.toList.map fun c => .str ⟨#[c]⟩, fun _ => True) := rfl
theorem datOf_tup : datOf S (.tup ds) = some (.tup ds) := rfl
theorem datOf_lst : datOf S (.lst ds) = some (.lst ds) := rfl
theorem isL_lst : isL S (.lst ds) := ⟨ds, rfl⟩
theorem isL_cell (h : S p = some (.lst ds)) : isL S (.ref p) := ⟨ds, by simp only [lstOf, h]⟩
theorem lstOf_cell (h : S p = some (.lst ds)) : lstOf S (.ref p) = some ds := by simp only [lstOf, h]
theorem seqOf_cell (h : S p = some (.lst ds)) : seqOf S (.ref p) = some ds := by simp only [seqOf, h]
theorem datOf_cell (h : S p = some (.lst ds)) : datOf S (.ref p) = some (.lst ds) := by simp only [datOf, h]
theorem walkOf_cell (h : S p = some (.lst ds)) : walkOf S (.ref p) = some (ds, fun S' => S' p = some (.lst ds)) := by simp only [walkOf, h]
end
section
variable {α : Type} {x0 x1 x2 x3 x4 x5 : α} {xs : List α}
theorem atI_a0 : atI (x0 :: xs) 0 = some x0 := atI_natD (j := 0) rfl
theorem atI_a1 : atI (x0 :: x1 :: xs) 1 = some x1 := atI_natD (j := 1) rfl
theorem atI_a2 : atI (x0 :: x1 :: x2 :: xs) 2 = some x2 := atI_natD (j := 2) rfl
theorem atI_a3 : atI (x0 :: x1 :: x2 :: x3 :: xs) 3 = some x3 := atI_natD (j := 3) rfl
theorem atI_a4 : atI (x0 :: x1 :: x2 :: x3 :: x4 :: xs) 4 = some x4 := atI_natD (j := 4) rfl
theorem atI_a5 : atI (x0 :: x1 :: x2 :: x3 :: x4 :: x5 :: xs) 5 = some x5 := atI_natD (j := 5) rfl
end
local macro_rules | `(tactic| walk_at "dd") => `(tactic| simp only [dRet, dRetW, dRetF, dOp, dVar, dC, dIf, dT, dUn, dChain, dAndV, dOrV, dNotV, dAnd, dOr, dNot, dNil, dCons, dTup, dLst, dVal, dCell, dCB, dCall, dMeth, dMake, dSeq, dAsg, dAug, dIfS, dNext, dDrop, dgName, dgNil, dgCons, dgTup, DEnds.fin, dFld, dFldS, dFor, dLc, dAny, dRng1, dRng2, dEnum, dNever, dSl, dPart, dNoPart, dBM, dDisp, dPairs,
  modP, addP, subP, mulP, fdivP, lessP, leP, gtP, geP, eqP, neP, isNP, iaddP, negP, ixP_tup, ixP_lst, ixP_frz, ixP_str, atI_a0, atI_a1, atI_a2, atI_a3, atI_a4, atI_a5, seqOf_tup, seqOf_lst, seqOf_frz, lstOf_lst, lstOf_tup, walkOf_tup, walkOf_lst, walkOf_str, datOf_tup, datOf_lst, Cell.lst.injEq, D.lst.injEq, String.reduceEq, D.isNon, lenP, intP, List.getElem?_cons_zero, List.getElem?_cons_succ, Option.some.injEq, Prod.mk.injEq, exists_eq_left', exists_eq_left, D.int.injEq, D.bl.injEq, D.str.injEq, D.tup.injEq, D.ref.injEq, Cell.ins.injEq, List.cons.injEq, and_true, true_and, and_self, List.set_cons_zero, List.set_cons_succ, reduceCtorEq, List.map_cons, List.map_nil, List.nil_append, List.cons_append, startD, List.length_cons, List.length_nil, List.replicate, wipeD, put_same, rgD_len0, List.map_cons, List.append_nil, tyD, isiP, decide_true, decide_false, Bool.true_and, Bool.false_and, Bool.and_true, Bool.and_false, Bool.or_true, Bool.or_false, Bool.true_or, Bool.false_or, Bool.not_true, Bool.not_false, powP, minU, maxU, min2P, max2P, dgSub, dCat, dListOf, strP, decide_eq_true_eq, and_assoc, exists_and_left, exists_eq, Bool.not_eq_true', decide_eq_false_iff_not, exists_false, false_and, ↓reduceIte, Bool.false_eq_true, if_true, if_false, Int.reduceLT, Int.reduceNeg, Nat.reduceAdd])
theorem app_put {S : Sg} {p : Addr} {ds : List D} {d : D} {K : D → Sg → Prop} (hl : ds.length < sizeLine) (h : K .non (put S p (.lst (ds ++ [d])))) : isL (put S p (.lst ds)) (.ref p) ∧ appendP (put S p (.lst ds)) (.ref p) [d] K :=
  ⟨isL_cell put_same, p, ds, d, rfl, put_same, rfl, hl, by rw [put_put]; exact h⟩
theorem small_size {n : Nat} (h : n < 10000) : n < sizeLine := Nat.lt_trans h (by decide)
theorem less_put {S : Sg} {p : Addr} {c : Cell} (h : S p = none) : Less S (put S p c) := fun a d e => by
  rw [put_ne (fun z => by rw [z, h] at e; cases e)]
  exact e
/-! ### what the laws share -/
def sp__law_cell : DSp := fun as S P => ∃ (ns : List Int) (k : Nat), as = [.frz (ns.map .int), .int (k : Nat)] ∧ ∀ v : Int, P (.int v) S
def d__law_cell : DS :=
  (dSeq (dIfS (dT (dOp lessP (dVar 1) (dCB lenP (dCons (dVar 0) dNil)))) (dRet (dOp ixP (dVar 0) (dVar 1))) dNext)
  (dRet (dC (.int 0))))
theorem m__law_cell : ∀ ds S P, sp__law_cell ds S P → d__law_cell (DEnds.fin P) (startD ["script", "k"] ds) S := by
  rintro ds S P ⟨ns, k, rfl, h⟩
  show d__law_cell (DEnds.fin P) [some (.frz (ns.map .int)), some (.int k)] S
  unfold d__law_cell
  refine nxt fun N hN => ?_
  walk_at "dd"
  rw [List.length_map]
  by_cases q : (k : Int) < ns.length
  · rw [if_pos q]
    have hk : k < ns.length := by omega
    exact ⟨_, atI_natD (by rw [List.getElem?_map, List.getElem?_eq_getElem hk]; rfl), h _⟩
  · rw [if_neg q]
    subst hN
    walk_at "dd"
    exact h _
def sp__law_numbers : DSp := fun as S P => ∃ (c : Int), as = [.int c, .int 24] ∧ ∀ ns : List Int, ns.length = 24 → P (.lst (ns.map .int)) S
def d__law_numbers : DS :=
  (dSeq (dAsg (dCell (dLst dNil)) (dgName 2))
  (dSeq (dAsg (dVar 0) (dgName 3))
  (dSeq (dFor (dRng1 (dCons (dVar 1) dNil)) (dgName 4) (dIfS (dAnd (dT (dOp geP (dVar 0) (dOp powP (dC (.int 10)) (dC (.int 18))))) (dT (dOp gtP (dVar 3) (dC (.int 0))))) (dSeq (dDrop (dBM isL appendP (dVar 2) (dCons (dOp modP (dCB intP (dCons (dVar 3) dNil)) (dC (.int 4099))) dNil)))
  (dAsg (dOp fdivP (dVar 3) (dC (.int 4099))) (dgName 3))) (dSeq (dAsg (dOp modP (dCB intP (dCons (dOp addP (dOp mulP (dVar 0) (dC (.int 69621))) (dOp mulP (dOp addP (dVar 4) (dC (.int 1))) (dC (.int 48271)))) dNil)) (dC (.int 2147483647))) (dgName 5))
  (dSeq (dAsg (dOp modP (dCB intP (dCons (dOp addP (dOp addP (dOp mulP (dVar 5) (dVar 5)) (dOp mulP (dVar 5) (dC (.int 16807)))) (dOp mulP (dVar 4) (dC (.int 7919)))) dNil)) (dC (.int 2147483629))) (dgName 5))
  (dSeq (dAsg (dOp modP (dCB intP (dCons (dOp addP (dOp addP (dOp mulP (dVar 5) (dVar 5)) (dVar 0)) (dOp mulP (dC (.int 17)) (dVar 4))) dNil)) (dC (.int 2147483587))) (dgName 5))
  (dDrop (dBM isL appendP (dVar 2) (dCons (dOp modP (dOp fdivP (dVar 5) (dC (.int 5))) (dC (.int 4099))) dNil))))))))
  (dRetF (dVar 2)))))
theorem m__law_numbers : ∀ ds S P, sp__law_numbers ds S P → d__law_numbers (DEnds.fin P) (startD ["cell", "many", "rows", "left", "k", "mixed"] ds) S := by
  rintro ds S P ⟨c, rfl, h⟩
  show d__law_numbers (DEnds.fin P) [some (.int c), some (.int 24), none, none, none, none] S
  unfold d__law_numbers
  refine nxt fun N hN => ?_
  walk_at "dd"
  refine ⟨by decide, fun p hp => ?_⟩
  subst hN
  refine nxt fun N hN => ?_
  walk_at "dd"
  subst hN
  refine nxt fun N hN => ?_
  simp only [dFor, dRng1, dCons, dNil, dVar, List.getElem?_cons_zero, List.getElem?_cons_succ, Option.some.injEq, exists_eq_left', List.cons.injEq, and_true, D.int.injEq, exists_eq_left]
  refine ⟨by decide, by decide, forD_inv (fun i ρ S' => ∃ (ns : List Int) (l : Int) (x y : Option D), ns.length = i ∧ S' = put S p (.lst (ns.map .int)) ∧ ρ = [some (.int c), some (.int 24), some (.ref p), some (.int l), x, y]) ⟨[], c, _, _, rfl, rfl, rfl⟩ ?_ ?_⟩
  · rintro i ρ S' x N' hx ⟨ns, l, u, v, hl, rfl, rfl⟩ hN'
    obtain ⟨rfl, hi⟩ := rgD_get_inv hx
    have hsz : ns.length < sizeLine := Nat.lt_of_lt_of_le (show ns.length < 100 by omega) (by decide)
    refine ⟨trivial, ?_⟩
    have app : ∀ z l x y, N' [some (.int c), some (.int 24), some (.ref p), some (.int l), x, y] (put S p (.lst (ns.map .int ++ [.int z]))) := fun z l x y => hN' _ _ ⟨ns ++ [z], l, x, y, by simp [hl], by simp, rfl⟩
    walk_at "dd"
    have m1 : ∀ a b : Int, 0 < b → b < 2 ^ 64 → (-2 ^ 64 < a % b ∧ a % b < 2 ^ 64) := fun a b h1 h2 => ⟨Int.lt_of_lt_of_le (by decide) (Int.emod_nonneg _ (by omega)), Int.lt_trans (Int.emod_lt_of_pos _ h1) h2⟩
    have hA : (ns.map D.int).length < sizeLine := by rw [List.length_map]; exact hsz
    refine ⟨by decide, by decide, by decide, ?_⟩
    split
    · split
      · exact app_put hA (app _ _ _ _)
      · exact ⟨.inr (by decide), .inr (by decide), .inl (m1 _ _ (by decide) (by decide)), .inr (by decide), .inr (by decide), .inl (m1 _ _ (by decide) (by decide)), .inl (by decide), app_put hA (app _ _ _ _)⟩
    · exact ⟨.inr (by decide), .inr (by decide), .inl (m1 _ _ (by decide) (by decide)), .inr (by decide), .inr (by decide), .inl (m1 _ _ (by decide) (by decide)), .inl (by decide), app_put hA (app _ _ _ _)⟩
  · rintro ρ S' ⟨ns, l, u, v, hl, rfl, rfl⟩
    refine ⟨trivial, ?_⟩
    subst hN
    walk_at "dd"
    exact ⟨S, hp, less_put hp, h ns (by rw [hl]; rfl)⟩
def sp__law_pool : DSp := fun as S P => ∃ (ns : List Int), as = [.frz (ns.map .int)] ∧ ∀ (q r : Addr) (rows : List Int), S q = none → S r = none → r ≠ q → 0 < rows.length → rows.length ≤ 200 → P (.ref r) (put (put S q (.lst [.int 0])) r (.lst [.lst (rows.map .int), .ref q]))
def d__law_pool : DS :=
  (dSeq (dAsg (dVal (dLst dNil)) (dgName 1))
  (dSeq (dFor (dRng1 (dCons (dCB minU (dCons (dC (.int 6)) (dCons (dCB maxU (dCons (dC (.int 1)) (dCons (dCB lenP (dCons (dVar 0) dNil)) dNil))) dNil))) dNil)) (dgName 2) (dAsg (dOp addP (dVar 1) (dCall sp__law_numbers (dCons (dOp addP (dCall sp__law_cell (dCons (dVar 0) (dCons (dVar 2) dNil))) (dOp mulP (dC (.int 11)) (dVar 2))) (dCons (dC (.int 24)) dNil)))) (dgName 1)))
  (dRet (dCell (dLst (dCons (dVar 1) (dCons (dCell (dLst (dCons (dC (.int 0)) dNil))) dNil)))))))
theorem m__law_pool : ∀ ds S P, sp__law_pool ds S P → d__law_pool (DEnds.fin P) (startD ["script", "rows", "k"] ds) S := by
  rintro ds S P ⟨ns, rfl, h⟩
  show d__law_pool (DEnds.fin P) [some (.frz (ns.map .int)), none, none] S
  unfold d__law_pool
  refine nxt fun N hN => ?_
  walk_at "dd"
  subst hN
  refine ⟨by decide, nxt fun N hN => ?_⟩
  simp only [dFor, dRng1, dCons, dNil, dVar, dC, dCB, lenP, seqOf, maxU, max2P, minU, min2P, List.getElem?_cons_zero, List.getElem?_cons_succ, Option.some.injEq, exists_eq_left', List.cons.injEq, and_true, D.int.injEq, exists_eq_left, List.length_map]
  obtain ⟨m, hm, m1, m6⟩ : ∃ m : Nat, (if (if (ns.length : Int) > 1 then (ns.length : Int) else 1) < 6 then (if (ns.length : Int) > 1 then (ns.length : Int) else 1) else 6) = (m : Int) ∧ 1 ≤ m ∧ m ≤ 6 := by
    by_cases a : (ns.length : Int) > 1
    · rw [if_pos a]
      by_cases b : (ns.length : Int) < 6
      · rw [if_pos b]; exact ⟨ns.length, rfl, by omega, by omega⟩
      · rw [if_neg b]; exact ⟨6, rfl, by decide, by decide⟩
    · rw [if_neg a]; exact ⟨1, rfl, by decide, by decide⟩
  rw [hm]
  refine ⟨by omega, by omega, forD_inv (fun i ρ S' => S' = S ∧ ∃ (rows : List Int) (x : Option D), rows.length = 24 * i ∧ ρ = [some (.frz (ns.map .int)), some (.lst (rows.map .int)), x]) ⟨rfl, [], _, rfl, rfl⟩ ?_ ?_⟩
  · rintro i ρ S' x N' hx ⟨rfl, rows, u, hl, rfl⟩ hN'
    obtain ⟨rfl, hi⟩ := rgD_get_inv hx
    refine ⟨trivial, ?_⟩
    walk_at "dd"
    refine ⟨ns, i, by rw [Int.zero_add], fun v => ⟨.inl (by decide), _, rfl, fun more hm => ?_⟩⟩
    dsimp only
    walk_at "dd"
    refine ⟨by simp only [List.length_map]; exact Nat.le_of_lt (small_size (by omega)), hN' _ _ ⟨rfl, rows ++ more, _, by rw [List.length_append]; omega, by rw [List.map_append]⟩⟩
  · rintro ρ S' ⟨rfl, rows, u, hl, rfl⟩
    rw [rgD_len0] at hl
    refine ⟨trivial, ?_⟩
    subst hN
    walk_at "dd"
    refine ⟨by decide, fun q hq => ⟨by decide, fun r hr => ?_⟩⟩
    have hrq : r ≠ q := fun e => by rw [e, put_same] at hr; cases hr
    rw [put_ne hrq] at hr
    exact h q r rows hq hr hrq (by omega) (by omega)
/-- the pool at r: its numbers, its counter at q -/
structure PoolAt (S : Sg) (r q : Addr) (rows : List Int) (at_ : Nat) : Prop where
  r : S r = some (.lst [.lst (rows.map .int), .ref q])
  q : S q = some (.lst [.int (at_ : Nat)])
  pos : 0 < rows.length
  small : rows.length ≤ 200
def sp__law_draw : DSp := fun as S P => ∃ (r q : Addr) (rows : List Int) (at_ : Nat) (many : Int), as = [.ref r, .int many] ∧ PoolAt S r q rows at_ ∧ 0 < many ∧ at_ < 1000000000 ∧ ∀ v : Int, 0 ≤ v → v < many → P (.int v) (put S q (.lst [.int ((at_ + 1 : Nat) : Int)]))
def d__law_draw : DS :=
  (dSeq (dAsg (dOp ixP (dOp ixP (dVar 0) (dC (.int 1))) (dC (.int 0))) (dgName 2))
  (dSeq (dAsg (dOp addP (dVar 2) (dC (.int 1))) (dgSub (dOp ixP (dVar 0) (dC (.int 1))) (dC (.int 0))))
  (dSeq (dAsg (dOp fdivP (dVar 2) (dCB lenP (dCons (dOp ixP (dVar 0) (dC (.int 0))) dNil))) (dgName 3))
  (dRet (dOp modP (dCB intP (dCons (dOp addP (dOp addP (dOp ixP (dOp ixP (dVar 0) (dC (.int 0))) (dOp modP (dVar 2) (dCB lenP (dCons (dOp ixP (dVar 0) (dC (.int 0))) dNil)))) (dOp mulP (dVar 3) (dC (.int 1013)))) (dOp mulP (dOp mulP (dVar 3) (dVar 2)) (dC (.int 7)))) dNil)) (dVar 1))))))
theorem m__law_draw : ∀ ds S P, sp__law_draw ds S P → d__law_draw (DEnds.fin P) (startD ["pool", "many", "at", "turn"] ds) S := by
  rintro ds S P ⟨r, q, rows, at_, many, rfl, W, hm, ha, h⟩
  show d__law_draw (DEnds.fin P) [some (.ref r), some (.int many), none, none] S
  unfold d__law_draw
  have hr := W.r
  have hq := W.q
  have hrq : r ≠ q := fun e => by rw [e, hq] at hr; cases hr
  refine nxt fun N hN => ?_
  repeat (first | walk_at "dd" | simp only [ixP_cell hr, ixP_cell hq])
  subst hN
  refine nxt fun N hN => ?_
  repeat (first | walk_at "dd" | simp only [ixP_cell hr, hq])
  refine ⟨0, rfl, ?_⟩
  have h0 : 0 < rows.length := W.pos
  have hS : ∀ c, put S q c r = some (.lst [.lst (rows.map .int), .ref q]) := fun c => by rw [put_ne hrq]; exact hr
  simp only [List.set_cons_zero]
  subst hN
  refine nxt fun N hN => ?_
  repeat (first | walk_at "dd" | simp only [ixP_cell (hS _), List.length_map])
  have h3 : rows.length ≤ 200 := W.small
  refine ⟨by omega, by omega, ?_⟩
  subst hN
  repeat (first | walk_at "dd" | simp only [ixP_cell (hS _), List.length_map])
  have hj : (at_ % rows.length) < rows.length := Nat.mod_lt _ h0
  have e : (at_ : Int) % (rows.length : Int) = ((at_ % rows.length : Nat) : Int) := by simp
  rw [e]
  refine ⟨by omega, .int (rows[at_ % rows.length]), atI_natD (by rw [List.getElem?_map, List.getElem?_eq_getElem hj]; rfl), ?_⟩
  repeat (first | walk_at "dd" | simp only [List.length_map])
  exact ⟨.inr (by decide), .inr (by omega), .inr (by decide), hm, h _ (Int.emod_nonneg _ (by omega)) (Int.emod_lt_of_pos _ hm)⟩
theorem PoolAt.draw {S : Sg} {r q : Addr} {rows : List Int} {n m : Nat} (W : PoolAt S r q rows n) : PoolAt (put S q (.lst [.int (m : Nat)])) r q rows m := by
  have hrq : r ≠ q := fun e => by have h := W.r; rw [e, W.q] at h; cases h
  exact ⟨by rw [put_ne hrq]; exact W.r, put_same, W.pos, W.small⟩
theorem PoolAt.put {S : Sg} {r q p : Addr} {rows : List Int} {n : Nat} {c : Cell} (W : PoolAt S r q rows n) (h1 : r ≠ p) (h2 : q ≠ p) : PoolAt (DL.put S p c) r q rows n :=
  ⟨by rw [put_ne h1]; exact W.r, by rw [put_ne h2]; exact W.q, W.pos, W.small⟩
/-- the law: the script in, True out -/
def sp_law : DSp := fun as S P => ∃ ns : List Int, as = [.frz (ns.map .int)] ∧ ∀ S, P (.bl true) S
/-! _law_kind -/
def kindD : D → Int
  | .bl _ => 1
  | .int _ => 2
  | .str _ => 3
  | .tup _ => 4
  | .lst _ => 5
  | .non => 6
  | _ => 0
def D.seen : D → Bool
  | .ref _ => false
  | .frz _ => false
  | _ => true
def sp__law_kind : DSp := fun as S P => ∃ x, as = [x] ∧ x.seen = true ∧ P (.int (kindD x)) S
def d__law_kind : DS :=
  (dSeq (dIfS (dT (dUn (isiP "bool") (dVar 0))) (dRet (dC (.int 1))) dNext)
  (dSeq (dIfS (dT (dUn (isiP "int") (dVar 0))) (dRet (dC (.int 2))) dNext)
  (dSeq (dIfS (dT (dUn (isiP "str") (dVar 0))) (dRet (dC (.int 3))) dNext)
  (dSeq (dIfS (dT (dUn (isiP "tuple") (dVar 0))) (dRet (dC (.int 4))) dNext)
  (dSeq (dIfS (dT (dUn (isiP "list") (dVar 0))) (dRet (dC (.int 5))) dNext)
  (dSeq (dIfS (dT (dOp isNP (dVar 0) (dC .non))) (dRet (dC (.int 6))) dNext)
  (dRet (dC (.int 0)))))))))
theorem m__law_kind : ∀ ds S P, sp__law_kind ds S P → d__law_kind (DEnds.fin P) (startD ["x"] ds) S := by
  rintro ds S P ⟨x, rfl, hs, h⟩
  show d__law_kind (DEnds.fin P) [some x] S
  unfold d__law_kind
  cases x <;> first | (walk_at "dd"; exact h) | (exact absurd hs (by simp [D.seen]))
/-! _law_equal -/
mutual
def D.pure : D → Bool
  | .tup xs => decide (xs.length < 10000000) && D.pureL xs
  | .lst xs => decide (xs.length < 10000000) && D.pureL xs
  | .ref _ => false
  | .frz _ => false
  | _ => true
def D.pureL : List D → Bool
  | [] => true
  | x :: xs => D.pure x && D.pureL xs
end
theorem D.pureL_all (xs : List D) : D.pureL xs = xs.all D.pure := by
  induction xs with
  | nil => simp [D.pureL]
  | cons x xs ih => simp [D.pureL, ih]
def sp__law_equal (n : Nat) : DSp := fun as S P => ∃ x y, as = [x, y] ∧ x.pure = true ∧ y.pure = true ∧ y.dep < n ∧ P (.bl (decide (x = y))) S
def d__law_equal (n : Nat) : DS :=
  (dSeq (dIfS (dOr (dT (dOp neP (dCall sp__law_kind (dCons (dVar 0) dNil)) (dCall sp__law_kind (dCons (dVar 1) dNil)))) (dT (dOp eqP (dCall sp__law_kind (dCons (dVar 0) dNil)) (dC (.int 0))))) (dRet (dC (.bl false))) dNext)
  (dSeq (dIfS (dOr (dT (dUn (isiP "tuple") (dVar 1))) (dT (dUn (isiP "list") (dVar 1)))) (dSeq (dIfS (dT (dOp neP (dCB lenP (dCons (dVar 0) dNil)) (dCB lenP (dCons (dVar 1) dNil)))) (dRet (dC (.bl false))) dNext)
  (dSeq (dFor (dRng1 (dCons (dCB lenP (dCons (dVar 1) dNil)) dNil)) (dgName 2) (dIfS (dNot (dT (dCall (sp__law_equal n) (dCons (dOp ixP (dVar 0) (dVar 2)) (dCons (dOp ixP (dVar 1) (dVar 2)) dNil))))) (dRet (dC (.bl false))) dNext))
  (dRet (dC (.bl true))))) dNext)
  (dRet (dOp eqP (dVar 0) (dVar 1)))))
theorem pure_seen {x : D} (h : x.pure = true) : x.seen = true := by
  cases x <;> first | rfl | (simp [D.pure] at h)
theorem kind_pos {x : D} (h : x.pure = true) : kindD x ≠ 0 := by
  cases x <;> simp [D.pure, kindD] at h ⊢
theorem dep_mem {x : D} : ∀ {xs : List D}, x ∈ xs → x.dep ≤ D.depL xs
  | y :: ys, h => by
    rcases List.mem_cons.mp h with rfl | h
    · simp [D.depL]; omega
    · have := dep_mem h
      simp [D.depL]; omega
/-- the loop over the items -/
theorem eq_loop {n : Nat} {xs ys : List D} {x y : D} {S : Sg} {F : Prop} {dg : DG} {db : DS} {DD : DEnds}
    (hb : ∀ (i : Nat) z (N' : Rho → Sg → Prop) a b, xs[i]? = some a → ys[i]? = some b → a.pure = true → b.pure = true → b.dep < n → (a ≠ b → F) → (a = b → N' [some x, some y, some (.int (i : Nat))] S) → dg (.int (i : Nat)) [some x, some y, z] S fun ρ1 S1 => db ⟨N', DD.rt, DD.nx, N'⟩ ρ1 S1)
    (px : D.pureL xs = true) (py : D.pureL ys = true) (hd : D.depL ys < n) (hl : xs.length = ys.length)
    (hf : xs ≠ ys → F) (ht : xs = ys → ∀ z, DD.nx [some x, some y, z] S) : forD dg db (fun _ => True) DD (rgD 0 (ys.length : Nat)) [some x, some y, none] S := by
  refine forD_inv (fun i ρ S' => S' = S ∧ (∃ z, ρ = [some x, some y, z]) ∧ ∀ j, j < i → xs[j]? = ys[j]?) ⟨rfl, ⟨_, rfl⟩, fun j h => absurd h (Nat.not_lt_zero _)⟩ ?_ ?_
  · rintro i ρ S' d N' hd' ⟨rfl, ⟨z, rfl⟩, hj⟩ hN'
    obtain ⟨rfl, hi⟩ := rgD_get_inv hd'
    refine ⟨trivial, ?_⟩
    rw [Int.zero_add] at hi ⊢
    have hi2 : i < ys.length := by omega
    have hi1 : i < xs.length := by omega
    have e1 : xs[i]? = some xs[i] := List.getElem?_eq_getElem hi1
    have e2 : ys[i]? = some ys[i] := List.getElem?_eq_getElem hi2
    have q1 : xs[i].pure = true := by rw [D.pureL_all] at px; exact List.all_eq_true.mp px _ (List.getElem_mem hi1)
    have q2 : ys[i].pure = true := by rw [D.pureL_all] at py; exact List.all_eq_true.mp py _ (List.getElem_mem hi2)
    have q3 := dep_mem (List.getElem_mem hi2)
    refine hb i z N' _ _ e1 e2 q1 q2 (by omega) (fun c => hf fun e => c ?_) fun c => hN' _ _ ⟨rfl, ⟨_, rfl⟩, fun j hlt => ?_⟩
    · subst e
      rfl
    · rcases Nat.lt_or_eq_of_le (Nat.le_of_lt_succ hlt) with h | rfl
      · exact hj j h
      · rw [e1, e2, c]
  · rintro ρ S' ⟨rfl, ⟨z, rfl⟩, hj⟩
    rw [rgD_len0] at hj
    refine ⟨trivial, ht ?_ _⟩
    apply List.ext_getElem? 
    intro j
    by_cases q : j < ys.length
    · exact hj j q
    · rw [List.getElem?_eq_none (by omega), List.getElem?_eq_none (by omega)]
theorem m__law_equal (n : Nat) : ∀ ds S P, sp__law_equal (n + 1) ds S P → d__law_equal n (DEnds.fin P) (startD ["x", "due", "k"] ds) S := by
  rintro ds S P ⟨x, y, rfl, px, py, hd, h⟩
  show d__law_equal n (DEnds.fin P) [some x, some y, none] S
  unfold d__law_equal
  refine nxt fun N hN => ?_
  walk_at "dd"
  refine ⟨x, rfl, pure_seen px, y, rfl, pure_seen py, ?_⟩
  walk_at "dd"
  by_cases q : kindD x = kindD y
  · rw [if_neg (fun z => z q)]
    refine ⟨x, rfl, pure_seen px, ?_⟩
    walk_at "dd"
    rw [if_neg (kind_pos px)]
    subst hN
    have p62 : (2 : Nat) ^ 62 = 4611686018427387904 := by decide
    cases y with
    | tup ys =>
      cases x with
      | tup xs =>
        simp only [D.pure, Bool.and_eq_true, decide_eq_true_eq] at px py
        rw [D.dep] at hd
        refine nxt fun N hN => ?_
        walk_at "dd"
        by_cases l : xs.length = ys.length
        · rw [if_neg (by omega)]
          refine ⟨by omega, by omega, eq_loop (xs := xs) (n := n) (F := P (.bl false) S) ?_ px.2 py.2 (by omega) l ?_ ?_⟩
          · intro i z N' a b e1 e2 pa pb hdb hf ht
            walk_at "dd"
            refine ⟨a, atI_natD e1, b, atI_natD e2, a, b, rfl, pa, pb, hdb, ?_⟩
            walk_at "dd"
            by_cases c : a = b
            · rw [if_neg (fun z => z c)]; exact ht c
            · rw [if_pos c]; exact hf c
          · intro e
            rw [decide_eq_false (fun z => e (D.tup.inj z))] at h
            exact h
          · rintro rfl z
            walk_at "dd"
            simpa using h
        · rw [if_pos (by omega)]
          rw [decide_eq_false (fun z => l (congrArg List.length (D.tup.inj z)))] at h
          exact h
      | _ => exact absurd q (by simp [kindD])
    | lst ys =>
      cases x with
      | lst xs =>
        simp only [D.pure, Bool.and_eq_true, decide_eq_true_eq] at px py
        rw [D.dep] at hd
        refine nxt fun N hN => ?_
        walk_at "dd"
        by_cases l : xs.length = ys.length
        · rw [if_neg (by omega)]
          refine ⟨by omega, by omega, eq_loop (xs := xs) (n := n) (F := P (.bl false) S) ?_ px.2 py.2 (by omega) l ?_ ?_⟩
          · intro i z N' a b e1 e2 pa pb hdb hf ht
            walk_at "dd"
            refine ⟨a, atI_natD e1, b, atI_natD e2, a, b, rfl, pa, pb, hdb, ?_⟩
            walk_at "dd"
            by_cases c : a = b
            · rw [if_neg (fun z => z c)]; exact ht c
            · rw [if_pos c]; exact hf c
          · intro e
            rw [decide_eq_false (fun z => e (D.lst.inj z))] at h
            exact h
          · rintro rfl z
            walk_at "dd"
            simpa using h
        · rw [if_pos (by omega)]
          rw [decide_eq_false (fun z => l (congrArg List.length (D.lst.inj z)))] at h
          exact h
      | _ => exact absurd q (by simp [kindD])
    | non => cases x <;> first | (simp [kindD] at q; done) | (walk_at "dd"; simpa using h)
    | bl b => cases x <;> first | (simp [kindD] at q; done) | (walk_at "dd"; simpa using h)
    | int b => cases x <;> first | (simp [kindD] at q; done) | (walk_at "dd"; simpa using h)
    | str b => cases x <;> first | (simp [kindD] at q; done) | (walk_at "dd"; simpa using h)
    | ref b => simp [D.pure] at py
    | frz b => simp [D.pure] at py
  · rw [if_pos q]
    rw [decide_eq_false (fun e => q (by rw [e]))] at h
    exact h
end DL
set_option autoImplicit false
/-! DLG: from the head's facts to the layer's facts. -/
namespace DLH
open PySem PySem.Spec PyProof.Rows L2 DL He
section
variable {P : Program} {w : World} {K : PySem.W.Frag} {h : Heap} {mg : Str → Option Value} {base : Heap} {k : Nat} {fd : FuncData} {ps N : List Str} {dsp : DSp} {x m qual : Str} {st : Stmt} {f : Addr}
theorem mkFnT (F : Fun K x qual st f fd) (hf : f = ga K x) (ok : FnOk P w K mg base CX0 k f fd ps (liftSp K dsp)) (X : K.In h) (G : h.Ns mainGlobals mg) (c : (Fa.glo x).ok K = true) (hb : Binds K fd ps []) : FnT P w K mg base k x dsp := by
  subst hf
  exact ⟨_, fd, ps, ok, glo_ok X G c, F.kp, hb⟩
theorem mkMtT (hf : f = ma K (ga K x) m) (ok : FnOk P w K mg base CX0 k f fd ps (liftSp K dsp)) (cg : (Fa.glo x).ok K = true) (cc : (Fa.cls x).ok K = true) (cm : (Fa.meth x m).ok K = true) (hb : Binds K fd ps []) : MtT P w K mg base k [x] m dsp := by
  subst hf
  refine ⟨_, fd, ps, ok, fun tag ht C hC => ?_, hb⟩
  have e : tag = x := by simpa using ht
  subst e
  cases hC.inj (clsAt_glo cg)
  exact ⟨cls_ok cc, meth_ok cm⟩
theorem mkMkT (hf : f = ma K (ga K x) "__init__") (ok : FnOk P w K mg base CX0 k f fd ps (liftSp K dsp)) (X : K.In h) (G : h.Ns mainGlobals mg) (cg : (Fa.glo x).ok K = true) (cm : (Fa.mkr x).ok K = true) (hb : Binds K fd ps []) : MkT P w K mg base k x dsp := by
  subst hf
  exact ⟨ga K x, _, fd, ps, ok, clsAt_glo cg, glo_ok X G cg, mkr_ok cm, hb⟩
/-- what promises nothing -/
theorem fn_no (F : Fun K x qual st f fd) (Sc : FnScope N ps (defScope st)) (hn : ∀ ds S P, ¬ dsp ds S P) : FnOk P w K mg base CX0 (k + 1) f fd ps (liftSp K dsp) := by
  refine F.ok Sc (fun vs H Q E h => ?_) (fun cdv A outer s H vs Q E hr h => ?_)
  · obtain ⟨F', G, S, ds, P', W, r, h, _⟩ := h
    exact absurd h (hn _ _ _)
  · obtain ⟨F', G, S, ds, P', W, r, h, _⟩ := h
    exact absurd h (hn _ _ _)
end
/-- where the law starts -/
theorem law_start {K : PySem.W.Frag} {H : Hp} {a : Addr} {ns : List Int} (hO : Only H) (hS : SqL K H a (ns.map V.int)) : liftSp K sp_law [.ref a] H (fun v _ => v = .bl true) fun _ _ _ => False := by
  have r : RpL K H (ns.map V.int) (ns.map D.int) := by
    clear hS
    induction ns with
    | nil => exact .nil
    | cons n ns ih => exact .cons (.int n) ih
  refine ⟨_, H, _, [.frz (ns.map .int)], fun d _ => d = .bl true, wd_start hO, .cons (.frz hS r) .nil, ⟨ns, rfl, fun _ => rfl⟩, ?_⟩
  intro G' H' S' x d e W rx hd
  subst hd
  cases rx
  rfl
end DLH
set_option autoImplicit false
namespace DL
open PySem L2 PySem.Spec PyProof.Rows
local macro_rules | `(tactic| walk_at "dd") => `(tactic| simp only [dRet, dRetW, dRetF, dOp, dVar, dC, dIf, dT, dUn, dChain, dAndV, dOrV, dNotV, dAnd, dOr, dNot, dNil, dCons, dTup, dLst, dVal, dCell, dCB, dCall, dMeth, dMake, dSeq, dAsg, dAug, dIfS, dNext, dDrop, dgName, dgNil, dgCons, dgTup, DEnds.fin, dFld, dFldS, dFor, dLc, dAny, dRng1, dRng2, dEnum, dNever, dSl, dPart, dNoPart, dBM, dDisp, dPairs,
  modP, addP, subP, mulP, fdivP, lessP, leP, gtP, geP, eqP, neP, isNP, iaddP, negP, ixP_tup, ixP_lst, ixP_frz, ixP_str, atI_a0, atI_a1, atI_a2, atI_a3, atI_a4, atI_a5, seqOf_tup, seqOf_lst, seqOf_frz, lstOf_lst, lstOf_tup, walkOf_tup, walkOf_lst, walkOf_str, datOf_tup, datOf_lst, Cell.lst.injEq, D.lst.injEq, String.reduceEq, D.isNon, lenP, intP, List.getElem?_cons_zero, List.getElem?_cons_succ, Option.some.injEq, Prod.mk.injEq, exists_eq_left', exists_eq_left, D.int.injEq, D.bl.injEq, D.str.injEq, D.tup.injEq, D.ref.injEq, Cell.ins.injEq, List.cons.injEq, and_true, true_and, and_self, List.set_cons_zero, List.set_cons_succ, reduceCtorEq, List.map_cons, List.map_nil, List.nil_append, List.cons_append, startD, List.length_cons, List.length_nil, List.replicate, wipeD, put_same, rgD_len0, List.map_cons, List.append_nil, tyD, isiP, decide_true, decide_false, Bool.true_and, Bool.false_and, Bool.and_true, Bool.and_false, Bool.or_true, Bool.or_false, Bool.true_or, Bool.false_or, Bool.not_true, Bool.not_false, powP, minU, maxU, min2P, max2P, dgSub, dCat, dListOf, strP, decide_eq_true_eq, and_assoc, exists_and_left, exists_eq, Bool.not_eq_true', decide_eq_false_iff_not, exists_false, false_and, ↓reduceIte, Bool.false_eq_true, if_true, if_false, Int.reduceLT, Int.reduceNeg, Nat.reduceAdd])
/-! ### scores -/
def sp_side_of : DSp := fun as S P => ∃ p : Int, as = [.int p] ∧ P (.int (p % 2)) S
def sp_needed : DSp := fun as S P => ∃ s l : Int, as = [.int s, .int l] ∧ P (.int (s / 2 + l)) S
def worthOf (suits strain : Int) : Int := if strain < suits / 2 then 20 else 30
def sp_worth_of : DSp := fun as S P => ∃ s l : Int, as = [.int s, .int l] ∧ P (.int (worthOf s l)) S
def d_side_of : DS :=
  (dRet (dOp modP (dVar 0) (dC (.int 2))))
def d_needed : DS :=
  (dRet (dOp addP (dOp fdivP (dVar 0) (dC (.int 2))) (dVar 1)))
def d_worth_of : DS :=
  (dRet (dIf (dT (dOp lessP (dVar 1) (dOp fdivP (dVar 0) (dC (.int 2))))) (dC (.int 20)) (dC (.int 30))))
theorem m_side_of : ∀ ds S P, sp_side_of ds S P → d_side_of (DEnds.fin P) (startD ["player"] ds) S := by
  rintro ds S P ⟨s, rfl, h⟩
  show d_side_of (DEnds.fin P) [some (.int s)] S
  unfold d_side_of
  walk_at "dd"
  exact h
theorem m_needed : ∀ ds S P, sp_needed ds S P → d_needed (DEnds.fin P) (startD ["size", "level"] ds) S := by
  rintro ds S P ⟨s, l, rfl, h⟩
  show d_needed (DEnds.fin P) [some (.int s), some (.int l)] S
  unfold d_needed
  walk_at "dd"
  exact h
theorem m_worth_of : ∀ ds S P, sp_worth_of ds S P → d_worth_of (DEnds.fin P) (startD ["suits", "strain"] ds) S := by
  rintro ds S P ⟨s, l, rfl, h⟩
  show d_worth_of (DEnds.fin P) [some (.int s), some (.int l)] S
  unfold d_worth_of
  walk_at "dd"
  unfold worthOf at h
  split <;> rename_i c
  · rwa [if_pos c] at h
  · rwa [if_neg c] at h
/-- a contract as data -/
abbrev conD (l s : Int) (d : Nat) (c : Int) : D := .tup [.int l, .int s, .int (d : Nat), .int c]
def trickPts (suits l s : Int) (d : Nat) : Int := (l * worthOf suits s + (if s = suits then 10 else 0)) * (2 ^ d : Nat)
def madeBase (suits size l s : Int) (d : Nat) (v : Bool) : Int :=
  trickPts suits l s d + (if trickPts suits l s d < 100 then 50 else if v then 500 else 300) + (if 2 ≤ size ∧ l = size - size / 2 then (if v then 750 else 500) else 0) + 50 * d
def madeWorth (suits s : Int) (d : Nat) (v : Bool) : Int := if 0 < d then 100 * d * (if v then 2 else 1) else worthOf suits s
def madeScore (suits size l s : Int) (d : Nat) (e : Int) (v : Bool) : Int := madeBase suits size l s d v + e * madeWorth suits s d v
def sp_made_score : DSp := fun as S P => ∃ (su si l s e c : Int) (d : Nat) (v : Bool), as = [.int su, .int si, conD l s d c, .int e, .bl v] ∧ d ≤ 2 ∧ 0 ≤ l ∧ l < 1000 ∧ 0 ≤ e ∧ e < 1000 ∧ P (.int (madeScore su si l s d e v)) S
def d_made_score : DS :=
  (dSeq (dAsg (dVar 2) (dgTup (dgCons (dgName 5) (dgCons (dgName 6) (dgCons (dgName 7) (dgCons (dgName 8) dgNil))))))
  (dSeq (dAsg (dCall sp_worth_of (dCons (dVar 0) (dCons (dVar 6) dNil))) (dgName 9))
  (dSeq (dAsg (dOp mulP (dOp addP (dOp mulP (dVar 5) (dVar 9)) (dIf (dT (dOp eqP (dVar 6) (dVar 0))) (dC (.int 10)) (dC (.int 0)))) (dOp ixP (dTup (dCons (dC (.int 1)) (dCons (dC (.int 2)) (dCons (dC (.int 4)) dNil)))) (dVar 7))) (dgName 10))
  (dSeq (dAsg (dVar 10) (dgName 11))
  (dSeq (dIfS (dT (dOp lessP (dVar 10) (dC (.int 100)))) (dAug 11 iaddP (dC (.int 50))) (dAug 11 iaddP (dIf (dT (dVar 4)) (dC (.int 500)) (dC (.int 300)))))
  (dSeq (dIfS (dAnd (dT (dOp geP (dVar 1) (dC (.int 2)))) (dT (dOp eqP (dVar 5) (dOp subP (dVar 1) (dOp fdivP (dVar 1) (dC (.int 2))))))) (dAug 11 iaddP (dIf (dT (dVar 4)) (dC (.int 750)) (dC (.int 500)))) dNext)
  (dSeq (dAug 11 iaddP (dOp mulP (dC (.int 50)) (dVar 7)))
  (dSeq (dIfS (dT (dOp gtP (dVar 7) (dC (.int 0)))) (dAsg (dOp mulP (dOp mulP (dC (.int 100)) (dVar 7)) (dIf (dT (dVar 4)) (dC (.int 2)) (dC (.int 1)))) (dgName 9)) dNext)
  (dRet (dOp addP (dVar 11) (dOp mulP (dVar 3) (dVar 9))))))))))))
abbrev N_made_score : List Str := ["suits", "size", "contract", "extra", "is_vulnerable", "level", "strain", "doubled", "_", "worth", "trick_points", "total"]
theorem ix124 {d : Nat} (h : d ≤ 2) : atI [D.int 1, .int 2, .int 4] (d : Int) = some (.int (2 ^ d : Nat)) := by
  have : d = 0 ∨ d = 1 ∨ d = 2 := by omega
  rcases this with rfl | rfl | rfl <;> rfl
theorem worth_rng (a b : Int) : 20 ≤ worthOf a b ∧ worthOf a b ≤ 30 := by
  unfold worthOf
  split <;> omega
theorem m_made_score : ∀ ds S P, sp_made_score ds S P → d_made_score (DEnds.fin P) (startD N_made_score ds) S := by
  rintro ds S P ⟨su, si, l, s, e, c, d, v, rfl, hd, l0, l1, e0, e1, h⟩
  show d_made_score (DEnds.fin P) [some (.int su), some (.int si), some (conD l s d c), some (.int e), some (.bl v), none, none, none, none, none, none, none] S
  unfold d_made_score conD
  refine nxt fun N hN => ?_
  walk_at "dd"
  subst hN
  refine nxt fun N hN => ?_
  walk_at "dd"
  refine ⟨su, s, rfl, ?_⟩
  dsimp only
  subst hN
  have wr := worth_rng su s
  have d4 : ((2 ^ d : Nat) : Int) ≤ 4 ∧ 1 ≤ ((2 ^ d : Nat) : Int) := by
    have : d = 0 ∨ d = 1 ∨ d = 2 := by omega
    rcases this with rfl | rfl | rfl <;> decide
  refine nxt fun N hN => ?_
  simp only [dIf_int]
  walk_at "dd"
  refine ⟨.inr (by omega), by decide, _, ix124 hd, .inr (by omega), ?_⟩
  rw [show (l * worthOf su s + if s = su then 10 else 0) * ((2 ^ d : Nat) : Int) = trickPts su l s d from rfl]
  subst hN
  refine nxt fun N hN => ?_
  walk_at "dd"
  subst hN
  refine nxtE [some (.int su), some (.int si), some (conD l s d c), some (.int e), some (.bl v), some (.int l), some (.int s), some (.int d), some (.int c), some (.int (worthOf su s)), some (.int (trickPts su l s d)), some (.int (trickPts su l s d + (if trickPts su l s d < 100 then 50 else if v then 500 else 300)))] (fun N hn => ?_) ?_
  · simp only [dIf_int]
    walk_at "dd"
    split <;> rename_i q
    · rw [if_pos q] at hn; exact hn
    · rw [if_neg q] at hn; exact hn
  generalize ht2 : trickPts su l s d + (if trickPts su l s d < 100 then 50 else if v then 500 else 300) = t2
  refine nxtE [some (.int su), some (.int si), some (conD l s d c), some (.int e), some (.bl v), some (.int l), some (.int s), some (.int d), some (.int c), some (.int (worthOf su s)), some (.int (trickPts su l s d)), some (.int (t2 + (if 2 ≤ si ∧ l = si - si / 2 then (if v then 750 else 500) else 0)))] (fun N hn => ?_) ?_
  · simp only [dIf_int]
    walk_at "dd"
    by_cases q : 2 ≤ si
    · rw [if_pos q]
      by_cases r : l = si - si / 2
      · rw [if_pos r]
        rw [if_pos ⟨q, r⟩] at hn
        exact hn
      · rw [if_neg r]
        rw [if_neg fun z => r z.2, Int.add_zero] at hn
        exact hn
    · rw [if_neg q]
      rw [if_neg fun z => q z.1, Int.add_zero] at hn
      exact hn
  generalize ht3 : t2 + (if 2 ≤ si ∧ l = si - si / 2 then (if v then 750 else 500) else 0) = t3
  refine nxtE [some (.int su), some (.int si), some (conD l s d c), some (.int e), some (.bl v), some (.int l), some (.int s), some (.int d), some (.int c), some (.int (worthOf su s)), some (.int (trickPts su l s d)), some (.int (t3 + 50 * d))] (fun N hn => ?_) ?_
  · walk_at "dd"
    exact ⟨.inl (by decide), hn⟩
  refine nxtE [some (.int su), some (.int si), some (conD l s d c), some (.int e), some (.bl v), some (.int l), some (.int s), some (.int d), some (.int c), some (.int (madeWorth su s d v)), some (.int (trickPts su l s d)), some (.int (t3 + 50 * d))] (fun N hn => ?_) ?_
  · simp only [dIf_int]
    walk_at "dd"
    unfold madeWorth at hn
    by_cases q : 0 < d
    · rw [if_pos (by omega)]
      rw [if_pos q] at hn
      exact ⟨.inl (by decide), .inr (by cases v <;> decide), hn⟩
    · rw [if_neg (by omega)]
      rw [if_neg q] at hn
      exact hn
  walk_at "dd"
  refine ⟨.inl (by omega), ?_⟩
  subst ht3 ht2
  exact h
theorem madeWorth_pos (su s : Int) (d : Nat) (v : Bool) : 0 < madeWorth su s d v := by
  unfold madeWorth
  split
  · cases v <;> simp <;> omega
  · have := worth_rng su s; omega
theorem trick_pos {su l s : Int} {d : Nat} (h : 0 < l) : 0 < trickPts su l s d := by
  unfold trickPts
  have wr := worth_rng su s
  have h1 : 0 < l * worthOf su s := Int.mul_pos h (by omega)
  refine Int.mul_pos (by split <;> omega) (by exact_mod_cast Nat.pow_pos (by decide))
theorem madeBase_pos {su si l s : Int} {d : Nat} {v : Bool} (h : 0 < l) : 0 < madeBase su si l s d v := by
  unfold madeBase
  have := trick_pos (su := su) (s := s) (d := d) h
  have a : 0 ≤ (if trickPts su l s d < 100 then (50 : Int) else if v then 500 else 300) := by split; omega; split <;> omega
  have b : 0 ≤ (if 2 ≤ si ∧ l = si - si / 2 then (if v then (750 : Int) else 500) else 0) := by split; split <;> omega; omega
  omega
theorem madeScore_pos {su si l s e : Int} {d : Nat} {v : Bool} (h : 0 < l) (he : 0 ≤ e) : 0 < madeScore su si l s d e v := by
  unfold madeScore
  have := madeBase_pos (su := su) (si := si) (s := s) (d := d) (v := v) h
  have := Int.mul_nonneg he (Int.le_of_lt (madeWorth_pos su s d v))
  omega
theorem madeScore_mono {su si l s e e' : Int} {d : Nat} {v : Bool} (he : e < e') : madeScore su si l s d e v < madeScore su si l s d e' v := by
  unfold madeScore
  have := Int.mul_lt_mul_of_pos_right he (madeWorth_pos su s d v)
  omega
/-! lost -/
def lostAt (v : Bool) (at_ : Nat) : Int := if v then (if at_ = 0 then 200 else 300) else if at_ = 0 then 100 else if at_ < 3 then 200 else 300
def lostSum (v : Bool) : Nat → Int
  | 0 => 0
  | n + 1 => lostSum v n + lostAt v n
def lostScore (d : Nat) (m : Nat) (v : Bool) : Int := if d = 0 then m * (if v then 100 else 50) else lostSum v m * d
def sp_lost_score : DSp := fun as S P => ∃ (d m : Nat) (v : Bool), as = [.int (d : Nat), .int (m : Nat), .bl v] ∧ d ≤ 2 ∧ m < 1000 ∧ P (.int (lostScore d m v)) S
def d_lost_score : DS :=
  (dSeq (dIfS (dT (dOp eqP (dVar 0) (dC (.int 0)))) (dRet (dOp mulP (dVar 1) (dIf (dT (dVar 2)) (dC (.int 100)) (dC (.int 50))))) dNext)
  (dSeq (dAsg (dC (.int 0)) (dgName 3))
  (dSeq (dFor (dRng1 (dCons (dVar 1) dNil)) (dgName 4) (dIfS (dT (dVar 2)) (dAug 3 iaddP (dIf (dT (dOp eqP (dVar 4) (dC (.int 0)))) (dC (.int 200)) (dC (.int 300)))) (dAug 3 iaddP (dIf (dT (dOp eqP (dVar 4) (dC (.int 0)))) (dC (.int 100)) (dIf (dT (dOp lessP (dVar 4) (dC (.int 3)))) (dC (.int 200)) (dC (.int 300)))))))
  (dRet (dOp mulP (dVar 3) (dVar 0))))))
abbrev N_lost_score : List Str := ["doubled", "missing", "is_vulnerable", "total", "at"]
theorem m_lost_score : ∀ ds S P, sp_lost_score ds S P → d_lost_score (DEnds.fin P) (startD N_lost_score ds) S := by
  rintro ds S P ⟨d, m, v, rfl, hd, hm, h⟩
  show d_lost_score (DEnds.fin P) [some (.int d), some (.int m), some (.bl v), none, none] S
  unfold d_lost_score
  refine nxt fun N hN => ?_
  simp only [dIf_int]
  walk_at "dd"
  by_cases q : d = 0
  · rw [if_pos (by omega)]
    unfold lostScore at h
    rw [if_pos q] at h
    exact ⟨.inl (by omega), h⟩
  rw [if_neg (by omega)]
  subst hN
  refine nxt fun N hN => ?_
  walk_at "dd"
  subst hN
  refine nxt fun N hN => ?_
  simp only [dIf_int]
  walk_at "dd"
  refine ⟨by omega, by omega, forD_inv (fun i ρ S' => S' = S ∧ ∃ x, ρ = [some (.int d), some (.int m), some (.bl v), some (.int (lostSum v i)), x]) ⟨rfl, _, rfl⟩ ?_ ?_⟩
  · rintro i ρ S' x N' hx ⟨rfl, y, rfl⟩ hN'
    obtain ⟨rfl, hi⟩ := rgD_get_inv hx
    refine ⟨trivial, ?_⟩
    walk_at "dd"
    have go : ∀ z, z = lostAt v i → N' [some (.int d), some (.int m), some (.bl v), some (.int (lostSum v i + z)), some (.int (0 + (i : Int)))] S' := by
      rintro z rfl
      exact hN' _ _ ⟨rfl, _, rfl⟩
    unfold lostAt at go
    split
    · rename_i hv
      exact go _ (by rw [if_pos hv]; simp only [Int.zero_add, Int.natCast_eq_zero])
    · rename_i hv
      by_cases h0 : 0 + (i : Int) = 0
      · rw [if_pos h0]
        exact go _ (by rw [if_neg hv, if_pos (by omega)])
      · rw [if_neg h0]
        refine go _ ?_
        rw [if_neg hv, if_neg (show ¬ i = 0 by omega)]
        have : (0 + (i : Int) < 3) ↔ i < 3 := by omega
        simp only [this]
  · rintro ρ S' ⟨rfl, y, rfl⟩
    refine ⟨trivial, ?_⟩
    subst hN
    walk_at "dd"
    unfold lostScore at h
    rw [if_neg q] at h
    exact ⟨.inr (by omega), h⟩
theorem lostAt_pos (v : Bool) (n : Nat) : 0 < lostAt v n := by
  unfold lostAt
  split
  · split <;> omega
  · split
    · omega
    · split <;> omega
theorem lostSum_succ (v : Bool) (n : Nat) : lostSum v n < lostSum v (n + 1) := by
  have := lostAt_pos v n
  show lostSum v n < lostSum v n + lostAt v n
  omega
theorem lostSum_nonneg (v : Bool) : ∀ n, 0 ≤ lostSum v n
  | 0 => Int.le_refl 0
  | n + 1 => by have := lostSum_nonneg v n; have := lostSum_succ v n; omega
theorem lostScore_succ {d n : Nat} {v : Bool} : lostScore d n v < lostScore d (n + 1) v := by
  unfold lostScore
  split
  · cases v <;> simp <;> omega
  · exact Int.mul_lt_mul_of_pos_right (lostSum_succ v n) (by omega)
theorem lostScore_pos {d n : Nat} {v : Bool} (h : 0 < n) : 0 < lostScore d n v := by
  unfold lostScore
  split
  · cases v <;> simp <;> omega
  · refine Int.mul_pos ?_ (by omega)
    obtain ⟨k, rfl⟩ : ∃ k, n = k + 1 := ⟨n - 1, by omega⟩
    have := lostSum_succ v k; have := lostSum_nonneg v k; omega
theorem lostScore_two {n : Nat} {v : Bool} : lostScore 2 n v = 2 * lostScore 1 n v := by
  unfold lostScore
  simp; omega
/-! score -/
def scoreI (su si l s : Int) (d : Nat) (v : Bool) (t : Int) : Int :=
  if 0 ≤ t - (si / 2 + l) then madeScore su si l s d (t - (si / 2 + l)) v else -(lostScore d (-(t - (si / 2 + l))).toNat v)
def vulOf (a b : Bool) (c : Int) : Bool := if c % 2 = 0 then a else b
def sp_score : DSp := fun as S P => ∃ (su si t : Int) (con : D) (a b : Bool), as = [.int su, .int si, con, .int t, .lst [.bl a, .bl b]] ∧
  ((con = .non ∧ P (.int 0) S) ∨ ∃ (l s c : Int) (d : Nat), con = conD l s d c ∧ d ≤ 2 ∧ 0 ≤ l ∧ l < 100 ∧ 0 ≤ t ∧ t < 100 ∧ 0 ≤ si ∧ si < 100 ∧ P (.int (scoreI su si l s d (vulOf a b c) t)) S)
def d_score : DS :=
  (dSeq (dIfS (dT (dOp isNP (dVar 2) (dC .non))) (dRet (dC (.int 0))) dNext)
  (dSeq (dAsg (dVar 2) (dgTup (dgCons (dgName 5) (dgCons (dgName 6) (dgCons (dgName 7) (dgCons (dgName 8) dgNil))))))
  (dSeq (dAsg (dOp subP (dVar 3) (dCall sp_needed (dCons (dVar 1) (dCons (dVar 5) dNil)))) (dgName 9))
  (dSeq (dAsg (dOp ixP (dVar 4) (dCall sp_side_of (dCons (dVar 8) dNil))) (dgName 10))
  (dSeq (dIfS (dT (dOp geP (dVar 9) (dC (.int 0)))) (dRet (dCall sp_made_score (dCons (dVar 0) (dCons (dVar 1) (dCons (dVar 2) (dCons (dVar 9) (dCons (dVar 10) dNil))))))) dNext)
  (dRet (dUn negP (dCall sp_lost_score (dCons (dVar 7) (dCons (dUn negP (dVar 9)) (dCons (dVar 10) dNil)))))))))))
abbrev N_score : List Str := ["suits", "size", "contract", "tricks", "vulnerable", "level", "_", "doubled", "declarer", "extra", "is_vulnerable"]
theorem atI_vul (a b : Bool) (c : Int) : atI [D.bl a, .bl b] (c % 2) = some (.bl (vulOf a b c)) := by
  unfold vulOf
  have : c % 2 = 0 ∨ c % 2 = 1 := by omega
  rcases this with e | e
  · rw [e, if_pos rfl]; rfl
  · rw [e, if_neg (by decide)]; rfl
theorem m_score : ∀ ds S P, sp_score ds S P → d_score (DEnds.fin P) (startD N_score ds) S := by
  rintro ds S P ⟨su, si, t, con, a, b, rfl, h⟩
  show d_score (DEnds.fin P) [some (.int su), some (.int si), some con, some (.int t), some (.lst [.bl a, .bl b]), none, none, none, none, none, none] S
  unfold d_score
  rcases h with ⟨rfl, h⟩ | ⟨l, s, c, d, rfl, hd, l0, l1, t0, t1, s0, s1, h⟩
  · refine nxt fun N hN => ?_
    walk_at "dd"
    exact h
  · refine nxt fun N hN => ?_
    walk_at "dd"
    subst hN
    refine nxt fun N hN => ?_
    walk_at "dd"
    subst hN
    refine nxt fun N hN => ?_
    walk_at "dd"
    refine ⟨si, l, rfl, ?_⟩
    subst hN
    dsimp only
    refine nxt fun N hN => ?_
    walk_at "dd"
    refine ⟨c, rfl, ?_⟩
    dsimp only
    walk_at "dd"
    refine ⟨_, atI_vul a b c, ?_⟩
    subst hN
    refine nxt fun N hN => ?_
    walk_at "dd"
    unfold scoreI at h
    by_cases q : 0 ≤ t - (si / 2 + l)
    · rw [if_pos q]
      rw [if_pos q] at h
      exact ⟨su, si, l, s, _, c, d, _, rfl, hd, l0, by omega, q, by omega, h⟩
    · rw [if_neg q]
      rw [if_neg q] at h
      subst hN
      walk_at "dd"
      exact ⟨d, (-(t - (si / 2 + l))).toNat, _, by rw [Int.toNat_of_nonneg (by omega)], hd, by omega, h⟩
theorem scoreI_pos {su si l s t : Int} {d : Nat} {v : Bool} (h : 0 < l) : 0 < scoreI su si l s d v t ↔ si / 2 + l ≤ t := by
  unfold scoreI
  split <;> rename_i q
  · exact ⟨fun _ => by omega, fun _ => madeScore_pos h q⟩
  · have := lostScore_pos (d := d) (n := (-(t - (si / 2 + l))).toNat) (v := v) (by omega)
    exact ⟨fun _ => by omega, fun _ => by omega⟩
theorem scoreI_succ {su si l s t : Int} {d : Nat} {v : Bool} (h : 0 < l) : scoreI su si l s d v t < scoreI su si l s d v (t + 1) := by
  unfold scoreI
  by_cases q : 0 ≤ t - (si / 2 + l)
  · rw [if_pos q, if_pos (by omega)]
    exact madeScore_mono (by omega)
  · rw [if_neg q]
    have p := lostScore_pos (d := d) (n := (-(t - (si / 2 + l))).toNat) (v := v) (by omega)
    by_cases r : 0 ≤ t + 1 - (si / 2 + l)
    · rw [if_pos r]
      have := madeScore_pos (su := su) (si := si) (s := s) (d := d) (v := v) h r
      omega
    · rw [if_neg r]
      have e : (-(t - (si / 2 + l))).toNat = (-(t + 1 - (si / 2 + l))).toNat + 1 := by omega
      rw [e]
      have := lostScore_succ (d := d) (n := (-(t + 1 - (si / 2 + l))).toNat) (v := v)
      omega
theorem scoreI_two {su si l s t : Int} {v : Bool} (h : t < si / 2 + l) : scoreI su si l s 2 v t = 2 * scoreI su si l s 1 v t := by
  unfold scoreI
  rw [if_neg (by omega), if_neg (by omega), lostScore_two]
  omega
def sp_score_for : DSp := fun as S P => ∃ (su si t l s c sd : Int) (d : Nat) (a b : Bool), as = [.int su, .int si, conD l s d c, .int t, .lst [.bl a, .bl b], .int sd] ∧
  d ≤ 2 ∧ 0 ≤ l ∧ l < 100 ∧ 0 ≤ t ∧ t < 100 ∧ 0 ≤ si ∧ si < 100 ∧ P (.int (if c % 2 = sd then scoreI su si l s d (vulOf a b c) t else -(scoreI su si l s d (vulOf a b c) t))) S
def d_score_for : DS :=
  (dSeq (dAsg (dCall sp_score (dCons (dVar 0) (dCons (dVar 1) (dCons (dVar 2) (dCons (dVar 3) (dCons (dVar 4) dNil)))))) (dgName 6))
  (dSeq (dIfS (dT (dOp isNP (dVar 2) (dC .non))) (dRet (dC (.int 0))) dNext)
  (dRet (dIf (dT (dOp eqP (dCall sp_side_of (dCons (dOp ixP (dVar 2) (dC (.int 3))) dNil)) (dVar 5))) (dVar 6) (dUn negP (dVar 6))))))
abbrev N_score_for : List Str := ["suits", "size", "contract", "tricks", "vulnerable", "side", "found"]
theorem m_score_for : ∀ ds S P, sp_score_for ds S P → d_score_for (DEnds.fin P) (startD N_score_for ds) S := by
  rintro ds S P ⟨su, si, t, l, s, c, sd, d, a, b, rfl, hd, l0, l1, t0, t1, s0, s1, h⟩
  show d_score_for (DEnds.fin P) [some (.int su), some (.int si), some (conD l s d c), some (.int t), some (.lst [.bl a, .bl b]), some (.int sd), none] S
  unfold d_score_for
  refine nxt fun N hN => ?_
  walk_at "dd"
  refine ⟨su, si, t, _, a, b, rfl, .inr ⟨l, s, c, d, rfl, hd, l0, l1, t0, t1, s0, s1, ?_⟩⟩
  subst hN
  refine nxt fun N hN => ?_
  walk_at "dd"
  subst hN
  walk_at "dd"
  refine ⟨c, rfl, ?_⟩
  walk_at "dd"
  split <;> rename_i q
  · rwa [if_pos q] at h
  · rwa [if_neg q] at h
/-! compared -/
def cmpI (xs : List Int) (o : Int) : Int := 2 * ((xs.filter fun x => decide (x < o)).length : Nat) + ((xs.filter fun x => decide (x = o)).length : Nat) - 1
def cmpL (xs : List Int) : List Int := xs.map (cmpI xs)
def sp_compared : DSp := fun as S P => ∃ xs : List Int, as = [.lst (xs.map .int)] ∧ xs.length < 1000 ∧ P (.lst ((cmpL xs).map .int)) S
def d_compared : DS :=
  (dSeq (dAsg (dCell (dLst dNil)) (dgName 1))
  (dSeq (dFor (dAny (dVar 0)) (dgName 2) (dSeq (dAsg (dCB lenP (dCons (dVal (dLc (dAny (dVar 0)) (dgName 4) (dT (dOp lessP (dVar 4) (dVar 2))) (dVar 4) [4])) dNil)) (dgName 3))
  (dDrop (dBM isL appendP (dVar 1) (dCons (dOp subP (dOp addP (dOp mulP (dC (.int 2)) (dVar 3)) (dCB lenP (dCons (dVal (dLc (dAny (dVar 0)) (dgName 4) (dT (dOp eqP (dVar 4) (dVar 2))) (dVar 4) [4])) dNil))) (dC (.int 1))) dNil)))))
  (dRetF (dVar 1))))
def dInt : D → Int
  | .int i => i
  | _ => 0
theorem filter_int (xs : List Int) (p : Int → Bool) : ((xs.map D.int).filter fun d => p (dInt d)) = (xs.filter p).map D.int := by
  induction xs with
  | nil => rfl
  | cons x xs ih =>
    have e : dInt (D.int x) = x := rfl
    by_cases h : p x = true <;> simp [List.filter_cons, e, h, ih]
theorem m_compared : ∀ ds S P, sp_compared ds S P → d_compared (DEnds.fin P) (startD ["scores", "found", "own", "less", "one"] ds) S := by
  rintro ds S P ⟨xs, rfl, hl, h⟩
  show d_compared (DEnds.fin P) [some (.lst (xs.map .int)), none, none, none, none] S
  unfold d_compared
  refine nxt fun N hN => ?_
  walk_at "dd"
  refine ⟨by decide, fun p hp => ?_⟩
  subst hN
  refine nxt fun N hN => ?_
  simp only [dFor, dAny, dVar, List.getElem?_cons_zero, Option.some.injEq, exists_eq_left', walkOf_lst, Prod.mk.injEq, and_assoc, exists_and_left]
  refine forD_inv (fun i ρ S' => S' = put S p (.lst (((xs.take i).map (cmpI xs)).map .int)) ∧ ∃ x y z, ρ = [some (.lst (xs.map .int)), some (.ref p), x, y, z]) ⟨rfl, _, _, _, rfl⟩ ?_ ?_
  · rintro i ρ S' x N' hx ⟨rfl, a, b, c, rfl⟩ hN'
    refine ⟨trivial, ?_⟩
    rw [List.getElem?_map] at hx
    obtain ⟨o, ho, rfl⟩ := Option.map_eq_some_iff.mp hx
    have hi := (List.getElem?_eq_some_iff.mp ho).1
    refine nxt fun N2 hN2 => ?_
    walk_at "dd"
    refine lcD_pure (fun d => decide (dInt d < o)) id trivial _ _ ?_ (by rw [List.length_map]; exact Nat.le_of_lt (small_size (by rw [List.length_nil]; omega))) ?_
    · rintro d hd Ky Kn h1 h2
      obtain ⟨v, _, rfl⟩ := List.mem_map.mp hd
      walk_at "dd"
      split <;> rename_i q
      · exact h1 (decide_eq_true q)
      · exact h2 (decide_eq_false q)
    · rw [filter_int xs fun x => decide (x < o)]
      simp only [List.nil_append, List.map_id, List.length_map]
      subst hN2
      walk_at "dd"
      refine ⟨isL_cell put_same, .inl (by decide), ?_⟩
      refine lcD_pure (fun d => decide (dInt d = o)) id trivial _ _ ?_ (by rw [List.length_map]; exact Nat.le_of_lt (small_size (by rw [List.length_nil]; omega))) ?_
      · rintro d hd Ky Kn h1 h2
        obtain ⟨v, _, rfl⟩ := List.mem_map.mp hd
        walk_at "dd"
        split <;> rename_i q
        · exact h1 (decide_eq_true q)
        · exact h2 (decide_eq_false q)
      · rw [filter_int xs fun x => decide (x = o)]
        simp only [List.nil_append, List.map_id, List.length_map]
        refine (app_put (by simp only [List.length_map]; exact small_size (by rw [List.length_take]; omega)) ?_).2
        refine hN' _ _ ⟨?_, _, _, _, rfl⟩
        rw [List.take_add_one, ho]
        simp [cmpI]
  · rintro ρ S' ⟨rfl, a, b, c, rfl⟩
    refine ⟨trivial, ?_⟩
    subst hN
    walk_at "dd"
    rw [List.length_map, List.take_length]
    exact ⟨S, hp, less_put hp, h⟩
/-! what the law asks of compared -/
theorem count_split (xs : List Int) (o : Int) : (xs.filter fun x => decide (x < o)).length + (xs.filter fun x => decide (x = o)).length + (xs.filter fun x => decide (o < x)).length = xs.length := by
  induction xs with
  | nil => rfl
  | cons x xs ih =>
    rcases Int.lt_trichotomy x o with h | h | h
    · simp only [List.filter_cons, h, decide_true, if_true, show ¬ x = o by omega, show ¬ o < x by omega, decide_false, Bool.false_eq_true, if_false, List.length_cons]; omega
    · simp only [List.filter_cons, h, decide_true, if_true, show ¬ o < o by omega, decide_false, Bool.false_eq_true, if_false, List.length_cons]; omega
    · simp only [List.filter_cons, h, decide_true, if_true, show ¬ x = o by omega, show ¬ x < o by omega, decide_false, Bool.false_eq_true, if_false, List.length_cons]; omega
theorem cmp_neg (xs : List Int) : cmpL (xs.map fun x => -x) = (cmpL xs).map fun f : Int => 2 * ((xs.length : Int) - 1) - f := by
  unfold cmpL
  rw [List.map_map, List.map_map]
  refine List.map_congr_left fun o _ => ?_
  have e := count_split xs o
  have f1 : ((xs.map fun x => -x).filter fun x => decide (x < -o)).length = (xs.filter fun x => decide (o < x)).length := by
    rw [List.filter_map, List.length_map]
    congr 2
    funext x
    simp only [Function.comp]
    exact decide_eq_decide.mpr (by omega)
  have f2 : ((xs.map fun x => -x).filter fun x => decide (x = -o)).length = (xs.filter fun x => decide (x = o)).length := by
    rw [List.filter_map, List.length_map]
    congr 2
    funext x
    simp only [Function.comp]
    exact decide_eq_decide.mpr (by omega)
  simp only [Function.comp, cmpI, f1, f2]
  omega
/-- Σ over two lists, both ways -/
def lessSum (xs ys : List Int) : Nat := (ys.map fun o => (xs.filter fun x => decide (x < o)).length).sum
def moreSum (xs ys : List Int) : Nat := (ys.map fun o => (xs.filter fun x => decide (o < x)).length).sum
theorem lessSum_cons (x : Int) (xs ys : List Int) : lessSum (x :: xs) ys = (ys.filter fun o => decide (x < o)).length + lessSum xs ys := by
  unfold lessSum
  induction ys with
  | nil => rfl
  | cons y ys ih =>
    rw [List.map_cons, List.map_cons, List.sum_cons, List.sum_cons, ih]
    by_cases h : x < y
    · simp only [List.filter_cons, h, decide_true, if_true, List.length_cons]; omega
    · simp only [List.filter_cons, h, decide_false, Bool.false_eq_true, if_false]; omega
theorem less_more (xs ys : List Int) : lessSum xs ys = moreSum ys xs := by
  induction xs with
  | nil =>
    unfold lessSum moreSum
    induction ys with
    | nil => rfl
    | cons y ys ih => simpa using ih
  | cons x xs ih =>
    rw [lessSum_cons, ih]
    unfold moreSum
    rw [List.map_cons, List.sum_cons]
theorem sum_all (xs : List Int) : ∀ ys : List Int, ((ys.map fun o => cmpI xs o).sum : Int) = (lessSum xs ys : Nat) - (moreSum xs ys : Nat) + ys.length * (xs.length - 1)
  | [] => by simp [lessSum, moreSum]
  | y :: ys => by
    have ih := sum_all xs ys
    have e := count_split xs y
    unfold lessSum moreSum at ih ⊢
    rw [List.map_cons, List.map_cons, List.map_cons, List.sum_cons, List.sum_cons, List.sum_cons, ih]
    unfold cmpI
    simp only [List.length_cons]
    have : ((ys.length + 1 : Nat) : Int) * ((xs.length : Int) - 1) = ys.length * (xs.length - 1) + (xs.length - 1) := by
      push_cast
      rw [Int.add_mul, Int.one_mul]
    rw [this]
    omega
theorem cmp_sum (xs : List Int) : (cmpL xs).sum = (xs.length : Int) * (xs.length - 1) := by
  unfold cmpL
  have := sum_all xs xs
  rw [less_more xs xs] at this
  rw [this]
  omega
theorem filter_mono {α : Type} {p q : α → Bool} (h : ∀ x, p x = true → q x = true) : ∀ xs : List α, (xs.filter p).length ≤ (xs.filter q).length
  | [] => Nat.le_refl 0
  | x :: xs => by
    have ih := filter_mono h xs
    by_cases c : p x = true
    · rw [List.filter_cons, List.filter_cons, if_pos c, if_pos (h x c), List.length_cons, List.length_cons]; omega
    · rw [List.filter_cons, if_neg c, List.filter_cons]
      split
      · rw [List.length_cons]; omega
      · exact ih
/-- who has more stands higher -/
theorem cmp_mono {xs : List Int} {a b : Int} (ha : a ∈ xs) (hb : b ∈ xs) (h : a < b) : cmpI xs a < cmpI xs b := by
  unfold cmpI
  have e1 : (xs.filter fun x => decide (x < a)).length + (xs.filter fun x => decide (x = a)).length ≤ (xs.filter fun x => decide (x < b)).length := by
    have : ∀ xs : List Int, (xs.filter fun x => decide (x < a)).length + (xs.filter fun x => decide (x = a)).length ≤ (xs.filter fun x => decide (x < b)).length := by
      intro xs
      induction xs with
      | nil => exact Nat.le_refl 0
      | cons x xs ih =>
        rcases Int.lt_trichotomy x a with q | q | q
        · simp only [List.filter_cons, q, decide_true, if_true, show ¬ x = a by omega, show x < b by omega, decide_false, Bool.false_eq_true, if_false, List.length_cons]; omega
        · subst q
          simp only [List.filter_cons, h, decide_true, if_true, show ¬ x < x by omega, decide_false, Bool.false_eq_true, if_false, List.length_cons]; omega
        · by_cases r : x < b
          · simp only [List.filter_cons, r, decide_true, if_true, show ¬ x = a by omega, show ¬ x < a by omega, decide_false, Bool.false_eq_true, if_false, List.length_cons]; omega
          · simp only [List.filter_cons, r, show ¬ x = a by omega, show ¬ x < a by omega, decide_false, Bool.false_eq_true, if_false]; exact ih
    exact this xs
  have e2 : 0 < (xs.filter fun x => decide (x = a)).length := List.length_pos_of_mem (a := a) (List.mem_filter.mpr ⟨ha, by simp⟩)
  have e3 : 0 < (xs.filter fun x => decide (x = b)).length := List.length_pos_of_mem (a := b) (List.mem_filter.mpr ⟨hb, by simp⟩)
  omega
/-- the highest place is the highest score's -/
theorem cmp_top {xs : List Int} {j : Nat} {m : Int} (hj : (cmpL xs)[j]? = some m) (hm : ∀ y ∈ cmpL xs, y ≤ m) : ∃ v, xs[j]? = some v ∧ ∀ y ∈ xs, y ≤ v := by
  unfold cmpL at hj hm
  rw [List.getElem?_map] at hj
  obtain ⟨v, hv, rfl⟩ := Option.map_eq_some_iff.mp hj
  refine ⟨v, hv, fun y hy => ?_⟩
  have := hm _ (List.mem_map.mpr ⟨y, hy, rfl⟩)
  refine Int.not_lt.mp fun c => ?_
  have := cmp_mono (List.mem_of_getElem? hv) hy c
  omega
theorem sorted_last {ns ns' : List Int} {v : Int} (h : ns'.Perm ns) (hs : ns'.Pairwise (· ≤ ·)) (hv : v ∈ ns) (hm : ∀ y ∈ ns, y ≤ v) : ns'.getLast? = some v := by
  have hv' : v ∈ ns' := h.mem_iff.mpr hv
  have hne : ns' ≠ [] := fun e => by rw [e] at hv'; cases hv'
  rw [List.getLast?_eq_some_getLast hne]
  have h1 : ns'.getLast hne ≤ v := hm _ (h.mem_iff.mp (List.getLast_mem hne))
  have h2 : v ≤ ns'.getLast hne := by
    rw [← List.dropLast_concat_getLast hne] at hs hv'
    rcases List.mem_append.mp hv' with q | q
    · exact (List.pairwise_append.mp hs).2.2 _ q _ (List.mem_singleton.mpr rfl)
    · rw [List.mem_singleton.mp q]; exact Int.le_refl _
  congr 1
  omega
end DL
set_option autoImplicit false
namespace DL
open PySem L2 PySem.Spec PyProof.Rows
local macro_rules | `(tactic| walk_at "dd") => `(tactic| simp only [dRet, dRetW, dRetF, dOp, dVar, dC, dIf, dT, dUn, dChain, dAndV, dOrV, dNotV, dAnd, dOr, dNot, dNil, dCons, dTup, dLst, dVal, dCell, dCB, dCall, dMeth, dMake, dSeq, dAsg, dAug, dIfS, dNext, dDrop, dgName, dgNil, dgCons, dgTup, DEnds.fin, dFld, dFldS, dFor, dLc, dAny, dRng1, dRng2, dEnum, dNever, dSl, dPart, dNoPart, dBM, dDisp, dPairs,
  modP, addP, subP, mulP, fdivP, lessP, leP, gtP, geP, eqP, neP, isNP, iaddP, negP, ixP_tup, ixP_lst, ixP_frz, ixP_str, atI_a0, atI_a1, atI_a2, atI_a3, atI_a4, atI_a5, seqOf_tup, seqOf_lst, seqOf_frz, lstOf_lst, lstOf_tup, walkOf_tup, walkOf_lst, walkOf_str, datOf_tup, datOf_lst, Cell.lst.injEq, D.lst.injEq, String.reduceEq, D.isNon, lenP, intP, List.getElem?_cons_zero, List.getElem?_cons_succ, Option.some.injEq, Prod.mk.injEq, exists_eq_left', exists_eq_left, D.int.injEq, D.bl.injEq, D.str.injEq, D.tup.injEq, D.ref.injEq, Cell.ins.injEq, List.cons.injEq, and_true, true_and, and_self, List.set_cons_zero, List.set_cons_succ, reduceCtorEq, List.map_cons, List.map_nil, List.nil_append, List.cons_append, startD, List.length_cons, List.length_nil, List.replicate, wipeD, put_same, rgD_len0, List.map_cons, List.append_nil, tyD, isiP, decide_true, decide_false, Bool.true_and, Bool.false_and, Bool.and_true, Bool.and_false, Bool.or_true, Bool.or_false, Bool.true_or, Bool.false_or, Bool.not_true, Bool.not_false, powP, minU, maxU, min2P, max2P, dgSub, dCat, dListOf, strP, decide_eq_true_eq, and_assoc, exists_and_left, exists_eq, Bool.not_eq_true', decide_eq_false_iff_not, exists_false, false_and, ↓reduceIte, Bool.false_eq_true, if_true, if_false, Int.reduceLT, Int.reduceNeg, Nat.reduceAdd])
abbrev v_PASS : D := .tup [.str "pass"]
abbrev v_DOUBLE : D := .tup [.str "double"]
abbrev v_REDOUBLE : D := .tup [.str "redouble"]
/-- a call -/
inductive Cl where
  | pass | dbl | rdbl
  | bid (l s : Nat)
def Cl.d : Cl → D
  | .pass => v_PASS
  | .dbl => v_DOUBLE
  | .rdbl => v_REDOUBLE
  | .bid l s => .tup [.str "bid", .int (l : Nat), .int (s : Nat)]
def Cl.isBid : Cl → Bool
  | .bid _ _ => true
  | _ => false
def Cl.notPass : Cl → Bool
  | .pass => false
  | _ => true
theorem Cl.ok : ∀ c : Cl, c.d.ok = true
  | .pass => by decide +kernel
  | .dbl => by decide +kernel
  | .rdbl => by decide +kernel
  | .bid l s => by
    have h : (D.str "bid").plain = true := by decide +kernel
    unfold D.ok
    simp [Cl.d, D.plain, D.plainL, D.dep, D.depL] at h ⊢
    exact h
theorem Cl.pure : ∀ c : Cl, c.d.pure = true
  | .pass => by decide +kernel
  | .dbl => by decide +kernel
  | .rdbl => by decide +kernel
  | .bid l s => by simp [Cl.d, D.pure, D.pureL]
theorem Cl.inj : ∀ a b : Cl, a.d = b.d → a = b
  | .pass, .pass, _ => rfl
  | .dbl, .dbl, _ => rfl
  | .rdbl, .rdbl, _ => rfl
  | .bid l s, .bid l' s', h => by
    simp [Cl.d] at h
    have h1 : l = l' := by omega
    have h2 : s = s' := by omega
    rw [h1, h2]
  | .pass, .dbl, h => absurd h (by decide +kernel)
  | .pass, .rdbl, h => absurd h (by decide +kernel)
  | .dbl, .pass, h => absurd h (by decide +kernel)
  | .dbl, .rdbl, h => absurd h (by decide +kernel)
  | .rdbl, .pass, h => absurd h (by decide +kernel)
  | .rdbl, .dbl, h => absurd h (by decide +kernel)
  | .pass, .bid l s, h => by simp [Cl.d] at h
  | .dbl, .bid l s, h => by simp [Cl.d] at h
  | .rdbl, .bid l s, h => by simp [Cl.d] at h
  | .bid l s, .pass, h => by simp [Cl.d] at h
  | .bid l s, .dbl, h => by simp [Cl.d] at h
  | .bid l s, .rdbl, h => by simp [Cl.d] at h
/-- the places where p holds -/
def plc (p : Cl → Bool) : Nat → List Cl → List Nat
  | _, [] => []
  | k, c :: r => if p c then k :: plc p (k + 1) r else plc p (k + 1) r
theorem plc_append (p : Cl → Bool) : ∀ (k : Nat) (a b : List Cl), plc p k (a ++ b) = plc p k a ++ plc p (k + a.length) b
  | k, [], b => by simp [plc]
  | k, c :: r, b => by
    have := plc_append p (k + 1) r b
    simp only [List.cons_append, plc, List.length_cons]
    rw [this, show k + 1 + r.length = k + (r.length + 1) by omega]
    split <;> simp
def lastJ (p : Cl → Bool) (cs : List Cl) : Int := match (plc p 0 cs).getLast? with
  | none => -1
  | some n => (n : Nat)
/-! enumerate -/
def enK (k : Nat) : List D → List D
  | [] => []
  | d :: r => .tup [.int (k : Nat), d] :: enK (k + 1) r
theorem enK_eq : ∀ (k : Nat) (ds : List D), (List.range ds.length).map (fun i => D.tup [.int ((k + i : Nat) : Int), ds.getD i .non]) = enK k ds
  | k, [] => rfl
  | k, d :: r => by
    rw [List.length_cons, List.range_succ_eq_map, List.map_cons, List.map_map, enK, ← enK_eq (k + 1) r]
    congr 1
    refine List.map_congr_left fun i _ => ?_
    simp only [Function.comp, Nat.succ_eq_add_one, List.getD_cons_succ]
    rw [show k + (i + 1) = k + 1 + i by omega]
theorem enD_enK (ds : List D) : enD ds = enK 0 ds := by
  rw [← enK_eq]
  unfold enD
  simp only [Nat.zero_add]
theorem enK_mem {x : D} : ∀ {k : Nat} {ds : List D}, x ∈ enK k ds → ∃ (i : Nat) (d : D), x = .tup [.int (i : Nat), d] ∧ d ∈ ds
  | k, d :: r, h => by
    rcases List.mem_cons.mp h with rfl | h
    · exact ⟨k, d, rfl, List.mem_cons_self⟩
    · obtain ⟨i, e, q, m⟩ := enK_mem h
      exact ⟨i, e, q, List.mem_cons_of_mem _ m⟩
theorem enK_filter {f : D → Bool} {g : D → D} {p : Cl → Bool} (hf : ∀ (i : Nat) (c : Cl), f (.tup [.int (i : Nat), c.d]) = p c) (hg : ∀ (i : Nat) (c : Cl), g (.tup [.int (i : Nat), c.d]) = .int (i : Nat)) : ∀ (k : Nat) (cs : List Cl), ((enK k (cs.map Cl.d)).filter f).map g = (plc p k cs).map fun n => D.int (n : Nat)
  | k, [] => rfl
  | k, c :: r => by
    have ih := enK_filter hf hg (k + 1) r
    rw [List.map_cons, enK, List.filter_cons, plc, hf]
    split
    · rw [List.map_cons, List.map_cons, hg, ih]
    · exact ih
theorem enK_get : ∀ {k : Nat} {ds : List D} {i : Nat}, (enK k ds)[i]? = (ds[i]?).map fun d => D.tup [.int ((k + i : Nat) : Int), d]
  | k, [], i => by simp [enK]
  | k, d :: r, 0 => by simp [enK]
  | k, d :: r, i + 1 => by
    rw [enK, List.getElem?_cons_succ, List.getElem?_cons_succ, enK_get, show k + 1 + i = k + (i + 1) by omega]
/-! the bids -/
def bidsP (su top : Nat) : List (Nat × Nat) := (List.range top).flatMap fun i => (List.range (su + 1)).map fun s => (i + 1, s)
def bidsL (su top : Nat) : List Cl := (bidsP su top).map fun x => .bid x.1 x.2
theorem bids_facts : ∀ su, su < 5 → ∀ top, top < 8 → (bidsP su top).Nodup ∧ (bidsP su top).length < 36 ∧ ∀ x ∈ bidsP su top, 1 ≤ x.1 ∧ x.1 ≤ top ∧ x.2 ≤ su := by decide +kernel
/-- two for's in a comprehension -/
theorem lcD2_pure {dg dg1 : DG} {di1 : DI} {de : DE} {vs1 : List Nat} {ρ0 : Rho} {st : Sg → Prop} {P : List D → Sg → Prop} {S : Sg} (f : D → List D) (hst : st S) : ∀ (ds acc : List D),
    (∀ x ∈ ds, ∀ (acc' : List D) (K : List D → Sg → Prop), acc'.length + (f x).length ≤ sizeLine → K (acc' ++ f x) S → dg x ρ0 S fun ρ1 S1 => di1 ρ1 S1 fun ds1 st1 S3 => lcD dg1 dYes de (wipeD ρ1 vs1) st1 K ds1 acc' S3) →
    acc.length + (ds.flatMap f).length ≤ sizeLine → P (acc ++ ds.flatMap f) S → lcD2 dg dYes di1 dg1 dYes de vs1 ρ0 st P ds acc S
  | [], acc, _, _, h => ⟨hst, by simpa using h⟩
  | x :: xs, acc, hx, hl, h => by
    rw [List.flatMap_cons] at hl h
    rw [List.length_append] at hl
    refine ⟨hst, ?_⟩
    have := hx x List.mem_cons_self acc (fun acc' S' => lcD2 dg dYes di1 dg1 dYes de vs1 ρ0 st P xs acc' S') (by omega) (lcD2_pure f hst xs _ (fun y hy => hx y (List.mem_cons_of_mem _ hy)) (by rw [List.length_append]; omega) (by rw [List.append_assoc]; exact h))
    show dg x ρ0 S fun ρ1 S1 => if true = true then di1 ρ1 S1 fun ds1 st1 S3 => lcD dg1 dYes de (wipeD ρ1 vs1) st1 (fun acc' S' => lcD2 dg dYes di1 dg1 dYes de vs1 ρ0 st P xs acc' S') ds1 acc S3 else lcD2 dg dYes di1 dg1 dYes de vs1 ρ0 st P xs acc S1
    simp only [if_true]
    exact this
/-- no test, with what stands before -/
theorem lcD_map' {dg : DG} {de : DE} {ρ0 : Rho} {st : Sg → Prop} {P : List D → Sg → Prop} {S : Sg} (g : D → D) (hst : st S) : ∀ (ds acc : List D),
    (∀ x ∈ ds, ∀ (Ky : D → Sg → Prop), Ky (g x) S → dg x ρ0 S fun ρ1 S1 => de ρ1 S1 Ky) → acc.length + ds.length ≤ sizeLine → P (acc ++ ds.map g) S → lcD dg dYes de ρ0 st P ds acc S
  | [], acc, _, _, h => ⟨hst, by simpa using h⟩
  | x :: xs, acc, hx, hl, h => by
    rw [List.length_cons] at hl
    refine ⟨hst, ?_⟩
    have := hx x List.mem_cons_self (fun y S3 => acc.length < sizeLine ∧ lcD dg dYes de ρ0 st P xs (acc ++ [y]) S3) ⟨by omega, lcD_map' g hst xs _ (fun y hy => hx y (List.mem_cons_of_mem _ hy)) (by simp only [List.length_append, List.length_cons, List.length_nil]; omega) (by simpa using h)⟩
    show dg x ρ0 S fun ρ1 S1 => if true = true then de ρ1 S1 (fun y S3 => acc.length < sizeLine ∧ lcD dg dYes de ρ0 st P xs (acc ++ [y]) S3) else lcD dg dYes de ρ0 st P xs acc S1
    simp only [if_true]
    exact this
def sp_bids_of : DSp := fun as S P => ∃ su size : Nat, as = [.int (su : Nat), .int (size : Nat)] ∧ 1 ≤ su ∧ su ≤ 4 ∧ 1 ≤ size ∧ size ≤ 13 ∧ P (.lst ((bidsL su (size - size / 2)).map Cl.d)) S
def d_bids_of : DS :=
  (dSeq (dAsg (dOp subP (dVar 1) (dOp fdivP (dVar 1) (dC (.int 2)))) (dgName 2))
  (dRet (dVal (dLc2 (dRng2 (dCons (dC (.int 1)) (dCons (dOp addP (dVar 2) (dC (.int 1))) dNil))) (dgName 3) dYes (dRng1 (dCons (dOp addP (dVar 0) (dC (.int 1))) dNil)) (dgName 4) dYes (dTup (dCons (dC (.str "bid")) (dCons (dVar 3) (dCons (dVar 4) dNil)))) [3, 4] [4]))))
theorem m_bids_of : ∀ ds S P, sp_bids_of ds S P → d_bids_of (DEnds.fin P) (startD ["suits", "size", "top", "level", "strain"] ds) S := by
  rintro ds S P ⟨su, si, rfl, u1, u4, s1, s13, h⟩
  show d_bids_of (DEnds.fin P) [some (.int su), some (.int si), none, none, none] S
  unfold d_bids_of
  refine nxt fun N hN => ?_
  walk_at "dd"
  obtain ⟨top, ht⟩ : ∃ top, top = si - si / 2 := ⟨_, rfl⟩
  have et : (si : Int) - (si : Int) / 2 = (top : Nat) := by omega
  rw [et]
  rw [← ht] at h
  have ht7 : top < 8 := by omega
  subst hN
  simp only [dRet, dVal, dLc2, dRng2, dCons, dNil, dC, dOp, dVar, addP, List.getElem?_cons_zero, List.getElem?_cons_succ, Option.some.injEq, exists_eq_left', List.cons.injEq, and_true, D.int.injEq, exists_eq_left, wipeD, List.set_cons_zero, List.set_cons_succ, and_assoc, exists_and_left, DEnds.fin]
  have hf := bids_facts su (by omega) top ht7
  have e1 : ∀ x : Nat, (rgD 0 ((su : Int) + 1)).map (fun s => D.tup [.str "bid", .int (x : Nat), s]) = ((List.range (su + 1)).map fun s => (x, s)).map fun p => Cl.d (.bid p.1 p.2) := by
    intro x
    unfold rgD
    rw [show ((su : Int) + 1 - 0).toNat = su + 1 by omega, List.map_map, List.map_map]
    refine List.map_congr_left fun i _ => ?_
    simp [Cl.d]
  have e2 : (rgD 1 ((top : Int) + 1)).flatMap (fun x => (rgD 0 ((su : Int) + 1)).map fun s => D.tup [.str "bid", x, s]) = (bidsL su top).map Cl.d := by
    unfold bidsL bidsP
    rw [List.map_map, List.map_flatMap]
    have : rgD 1 ((top : Int) + 1) = (List.range top).map fun i => D.int ((i + 1 : Nat) : Int) := by
      unfold rgD
      rw [show ((top : Int) + 1 - 1).toNat = top by omega]
      refine List.map_congr_left fun i _ => ?_
      rw [show (1 : Int) + (i : Nat) = ((i + 1 : Nat) : Int) by omega]
    rw [this, List.flatMap_map]
    congr 1
    funext i
    rw [e1]
    rfl
  have hl : ∀ xs : List D, xs.length < 100 → xs.length ≤ sizeLine := fun xs h => Nat.le_of_lt (small_size (by omega))
  have hb : ((bidsL su top).map Cl.d).length < 36 := by unfold bidsL; rw [List.length_map, List.length_map]; exact hf.2.1
  refine ⟨by decide, by decide, by omega, by omega, lcD2_pure (fun x => (rgD 0 ((su : Int) + 1)).map fun s => D.tup [.str "bid", x, s]) trivial _ _ ?_ ?_ ?_⟩
  · rintro x hx acc K hk hK
    obtain ⟨i, rfl, hi⟩ := mem_rgD hx
    rw [List.length_map] at hk
    walk_at "dd"
    refine ⟨by omega, by omega, lcD_map' (fun s => D.tup [.str "bid", .int (1 + (i : Nat)), s]) trivial _ _ ?_ hk hK⟩
    rintro y hy Ky hKy
    obtain ⟨j, rfl, hj⟩ := mem_rgD hy
    walk_at "dd"
    exact ⟨by decide, hKy⟩
  · rw [e2]
    rw [List.length_nil, Nat.zero_add]
    exact hl _ (by omega)
  · rw [e2]
    exact h
/-! ### the auction -/
abbrev aucF (B : List Cl) (dl : Nat) (p : Addr) : List (Str × D) := [("_bids", .lst (B.map Cl.d)), ("_dealer", .int (dl : Nat)), ("_calls", .ref p)]
structure AucAt (S : Sg) (a p : Addr) (B : List Cl) (dl : Nat) (cs : List Cl) : Prop where
  a : S a = some (.ins "Auction" (aucF B dl p))
  p : S p = some (.lst (cs.map Cl.d))
  small : cs.length < 1000
theorem look_bids {B : List Cl} {dl : Nat} {p : Addr} : List.lookup (α := Str) "_bids" (aucF B dl p) = some (.lst (B.map Cl.d)) := rfl
theorem look_dealer {B : List Cl} {dl : Nat} {p : Addr} : List.lookup (α := Str) "_dealer" (aucF B dl p) = some (.int (dl : Nat)) := rfl
theorem look_calls {B : List Cl} {dl : Nat} {p : Addr} : List.lookup (α := Str) "_calls" (aucF B dl p) = some (.ref p) := rfl
theorem look_m {B : List Cl} {dl : Nat} {p : Addr} {m : Str} (h : ([("_bids", ()), ("_dealer", ()), ("_calls", ())] : List (Str × Unit)).lookup m = none) : (aucF B dl p).lookup m = none := by
  simp only [List.lookup] at h ⊢
  cases e1 : m == ("_bids" : Str) with
  | true => rw [e1] at h; cases h
  | false =>
    cases e2 : m == ("_dealer" : Str) with
    | true => rw [e1, e2] at h; cases h
    | false =>
      cases e3 : m == ("_calls" : Str) with
      | true => rw [e1, e2, e3] at h; cases h
      | false => rfl
theorem putD_len (f : Str) (v : D) : ∀ fs : List (Str × D), (putD f v fs).length ≤ fs.length + 1
  | [] => Nat.le_refl 1
  | (g, x) :: r => by
    unfold putD
    split
    · simp
    · have := putD_len f v r
      simp only [List.length_cons]; omega
theorem auc_mem : ("Auction" : Str) ∈ (["Auction"] : List Str) := List.mem_singleton.mpr rfl
def sp_Auction___init__ : DSp := fun as S P => ∃ (x : Addr) (su si dl : Nat), as = [.ref x, .int (su : Nat), .int (si : Nat), .int (dl : Nat)] ∧ S x = some (.ins "Auction" []) ∧ 1 ≤ su ∧ su ≤ 4 ∧ 1 ≤ si ∧ si ≤ 13 ∧
  ∀ p S', S p = none → AucAt S' x p (bidsL su (si - si / 2)) dl [] → (∀ b, b ≠ x → b ≠ p → S' b = S b) → P .non S'
def d_Auction___init__ : DS :=
  (dSeq (dFldS ["Auction"] "_bids" (dVar 0) (dCall sp_bids_of (dCons (dVar 1) (dCons (dVar 2) dNil))))
  (dSeq (dFldS ["Auction"] "_dealer" (dVar 0) (dVar 3))
  (dFldS ["Auction"] "_calls" (dVar 0) (dCell (dLst dNil)))))
theorem m_Auction___init__ : ∀ ds S P, sp_Auction___init__ ds S P → d_Auction___init__ (DEnds.fin P) (startD ["self", "suits", "size", "dealer"] ds) S := by
  rintro ds S P ⟨x, su, si, dl, rfl, hx, u1, u4, s1, s13, h⟩
  show d_Auction___init__ (DEnds.fin P) [some (.ref x), some (.int su), some (.int si), some (.int dl)] S
  unfold d_Auction___init__
  refine nxt fun N hN => ?_
  walk_at "dd"
  refine ⟨su, si, rfl, u1, u4, s1, s13, ?_⟩
  repeat (first | walk_at "dd" | simp only [hx])
  refine ⟨auc_mem, by decide, ?_⟩
  subst hN
  refine nxt fun N hN => ?_
  walk_at "dd"
  refine ⟨auc_mem, Nat.lt_of_le_of_lt (putD_len _ _ _) (by decide), ?_⟩
  rw [put_put]
  subst hN
  walk_at "dd"
  refine ⟨by decide, fun p hp => ?_⟩
  have hpx : p ≠ x := fun e => by rw [e, put_same] at hp; cases hp
  have e1 : ∀ c d, put (put S x c) p d x = some c := fun c d => by rw [put_ne (Ne.symm hpx), put_same]
  simp only [e1]
  walk_at "dd"
  rw [put_ne hpx] at hp
  refine ⟨auc_mem, Nat.lt_of_le_of_lt (putD_len _ _ _) (Nat.lt_of_le_of_lt (Nat.add_le_add_right (putD_len _ _ _) 1) (by decide)), h p _ hp ⟨put_same, by rw [put_ne hpx, put_same]; rfl, by decide⟩ fun b hb hb2 => ?_⟩
  rw [put_ne hb, put_ne hb2, put_ne hb]
def plr (dl at_ : Nat) : Nat := (dl + at_) % 4
def sp_Auction_player_of : DSp := fun as S P => ∃ (a p : Addr) (B : List Cl) (dl : Nat) (cs : List Cl) (at_ : Nat), as = [.ref a, .int (at_ : Nat)] ∧ AucAt S a p B dl cs ∧ P (.int (plr dl at_ : Nat)) S
def d_Auction_player_of : DS :=
  (dRet (dOp modP (dOp addP (dFld ["Auction"] "_dealer" (dVar 0)) (dVar 1)) (dC (.int 4))))
theorem m_Auction_player_of : ∀ ds S P, sp_Auction_player_of ds S P → d_Auction_player_of (DEnds.fin P) (startD ["self", "at"] ds) S := by
  rintro ds S P ⟨a, p, B, dl, cs, at_, rfl, W, h⟩
  show d_Auction_player_of (DEnds.fin P) [some (.ref a), some (.int at_)] S
  unfold d_Auction_player_of
  have hA := W.a
  repeat (first | walk_at "dd" | simp only [hA, look_dealer])
  refine ⟨auc_mem, ?_⟩
  have e : ((dl : Int) + at_) % 4 = (plr dl at_ : Nat) := by unfold plr; omega
  rw [e]
  exact h
def sp_Auction_turn : DSp := fun as S P => ∃ (a p : Addr) (B : List Cl) (dl : Nat) (cs : List Cl), as = [.ref a] ∧ AucAt S a p B dl cs ∧ P (.int (plr dl cs.length : Nat)) S
def d_Auction_turn : DS :=
  (dRet (dMeth ["Auction"] "player_of" sp_Auction_player_of (dVar 0) (dCons (dCB lenP (dCons (dFld ["Auction"] "_calls" (dVar 0)) dNil)) dNil)))
theorem m_Auction_turn : ∀ ds S P, sp_Auction_turn ds S P → d_Auction_turn (DEnds.fin P) (startD ["self"] ds) S := by
  rintro ds S P ⟨a, p, B, dl, cs, rfl, W, h⟩
  show d_Auction_turn (DEnds.fin P) [some (.ref a)] S
  unfold d_Auction_turn
  have hA := W.a
  have hP := W.p
  repeat (first | walk_at "dd" | simp only [hA, look_calls, seqOf_cell hP])
  refine ⟨auc_mem, look_m (by decide), auc_mem, a, p, B, dl, cs, cs.length, ?_, W, h⟩
  rw [List.length_map]
def sp_Auction_calls : DSp := fun as S P => ∃ (a p : Addr) (B : List Cl) (dl : Nat) (cs : List Cl), as = [.ref a] ∧ AucAt S a p B dl cs ∧ P (.lst (cs.map Cl.d)) S
def d_Auction_calls : DS :=
  (dRet (dVal (dListOf (dCons (dFld ["Auction"] "_calls" (dVar 0)) dNil))))
theorem m_Auction_calls : ∀ ds S P, sp_Auction_calls ds S P → d_Auction_calls (DEnds.fin P) (startD ["self"] ds) S := by
  rintro ds S P ⟨a, p, B, dl, cs, rfl, W, h⟩
  show d_Auction_calls (DEnds.fin P) [some (.ref a)] S
  unfold d_Auction_calls
  have hA := W.a
  have hP := W.p
  repeat (first | walk_at "dd" | simp only [hA, look_calls, seqOf_cell hP])
  exact ⟨auc_mem, h⟩
/-! last calls -/
theorem plc_len (p : Cl → Bool) : ∀ (k : Nat) (cs : List Cl), (plc p k cs).length ≤ cs.length
  | k, [] => Nat.le_refl 0
  | k, c :: r => by
    have := plc_len p (k + 1) r
    unfold plc
    split <;> simp only [List.length_cons] <;> omega
theorem enK_len : ∀ (k : Nat) (ds : List D), (enK k ds).length = ds.length
  | k, [] => rfl
  | k, d :: r => by rw [enK, List.length_cons, List.length_cons, enK_len]
/-- the places of the calls with p, as a comprehension finds them -/
theorem lcD_enum {p : Cl → Bool} {dg : DG} {dt : DT} {de : DE} {ρ0 : Rho} {st : Sg → Prop} {P : List D → Sg → Prop} {S : Sg} (hst : st S)
    (hx : ∀ (i : Nat) (c : Cl) (Ky : D → Sg → Prop) (Kn : Sg → Prop), (p c = true → Ky (.int (i : Nat)) S) → (p c = false → Kn S) → dg (.tup [.int (i : Nat), c.d]) ρ0 S fun ρ1 S1 => dt ρ1 S1 fun b S2 => if b = true then de ρ1 S2 Ky else Kn S2) :
    ∀ (cs : List Cl) (k : Nat) (acc : List D), acc.length + cs.length ≤ sizeLine → P (acc ++ (plc p k cs).map fun n => .int (n : Nat)) S → lcD dg dt de ρ0 st P (enK k (cs.map Cl.d)) acc S
  | [], k, acc, _, h => ⟨hst, by simpa [plc] using h⟩
  | c :: cs, k, acc, hl, h => by
    rw [List.length_cons] at hl
    refine ⟨hst, hx k c _ _ (fun e => ?_) fun e => ?_⟩
    · rw [plc, if_pos e] at h
      exact ⟨by omega, lcD_enum hst hx cs (k + 1) _ (by simp only [List.length_append, List.length_cons, List.length_nil]; omega) (by simpa using h)⟩
    · rw [plc, if_neg (by rw [e]; exact Bool.false_ne_true)] at h
      exact lcD_enum hst hx cs (k + 1) _ (by omega) h
def lastOf (ns : List Nat) : Int := match ns.getLast? with
  | none => -1
  | some n => (n : Nat)
/-- what stands behind the places -/
theorem last_ret {ns : List Nat} {S : Sg} {P : D → Sg → Prop} {a b c : Option D} (h : P (.int (lastOf ns)) S) :
    (dRet (dIf (dT (dOp gtP (dCB lenP (dCons (dVar 1) dNil)) (dC (.int 0)))) (dOp ixP (dVar 1) (dUn negP (dC (.int 1)))) (dUn negP (dC (.int 1))))) (DEnds.fin P) [a, some (.lst (ns.map fun n => .int (n : Nat))), b, c] S := by
  walk_at "dd"
  rw [List.length_map]
  by_cases q : ns = []
  · subst q
    rw [if_neg (by simp)]
    exact h
  · have hl := List.length_pos_iff.mpr q
    rw [if_pos (by omega)]
    have e := List.getLast?_eq_some_getLast q
    unfold lastOf at h
    rw [e] at h
    exact ⟨_, atI_last (by rw [List.getLast?_map, e]; rfl), h⟩
def sp_Auction_last : DSp := fun as S P => ∃ (a p : Addr) (B : List Cl) (dl : Nat) (cs : List Cl), as = [.ref a] ∧ AucAt S a p B dl cs ∧ P (.int (lastOf (plc Cl.notPass 0 cs))) S
def d_Auction_last : DS :=
  (dSeq (dAsg (dVal (dLc (dEnum (dCons (dFld ["Auction"] "_calls" (dVar 0)) dNil)) (dgTup (dgCons (dgName 2) (dgCons (dgName 3) dgNil))) (dT (dOp neP (dVar 3) (dC v_PASS))) (dVar 2) [2, 3])) (dgName 1))
  (dRet (dIf (dT (dOp gtP (dCB lenP (dCons (dVar 1) dNil)) (dC (.int 0)))) (dOp ixP (dVar 1) (dUn negP (dC (.int 1)))) (dUn negP (dC (.int 1))))))
theorem m_Auction_last : ∀ ds S P, sp_Auction_last ds S P → d_Auction_last (DEnds.fin P) (startD ["self", "places", "at", "call"] ds) S := by
  rintro ds S P ⟨a, p, B, dl, cs, rfl, W, h⟩
  show d_Auction_last (DEnds.fin P) [some (.ref a), none, none, none] S
  unfold d_Auction_last
  have hA := W.a
  have hP := W.p
  refine nxt fun N hN => ?_
  repeat (first | walk_at "dd" | simp only [hA, look_calls, lstOf_cell hP, walkOf_cell hP])
  refine ⟨auc_mem, ?_⟩
  rw [enD_enK]
  have hs := W.small
  refine lcD_enum (p := Cl.notPass) hP ?_ cs 0 [] (by rw [List.length_nil]; exact Nat.le_of_lt (small_size (by omega))) ?_
  · rintro i c Ky Kn h1 h2
    have hok := c.ok
    cases c <;> simp only [Cl.d] at hok ⊢ <;> walk_at "dd"
    · exact ⟨hok, hok, h2 rfl⟩
    · exact ⟨hok, Cl.ok .pass, h1 rfl⟩
    · exact ⟨hok, Cl.ok .pass, h1 rfl⟩
    · exact ⟨hok, Cl.ok .pass, h1 rfl⟩
  · subst hN
    exact last_ret h
def sp_Auction_last_bid : DSp := fun as S P => ∃ (a p : Addr) (B : List Cl) (dl : Nat) (cs : List Cl), as = [.ref a] ∧ AucAt S a p B dl cs ∧ P (.int (lastOf (plc Cl.isBid 0 cs))) S
def d_Auction_last_bid : DS :=
  (dSeq (dAsg (dVal (dLc (dEnum (dCons (dFld ["Auction"] "_calls" (dVar 0)) dNil)) (dgTup (dgCons (dgName 2) (dgCons (dgName 3) dgNil))) (dT (dOp eqP (dOp ixP (dVar 3) (dC (.int 0))) (dC (.str "bid")))) (dVar 2) [2, 3])) (dgName 1))
  (dRet (dIf (dT (dOp gtP (dCB lenP (dCons (dVar 1) dNil)) (dC (.int 0)))) (dOp ixP (dVar 1) (dUn negP (dC (.int 1)))) (dUn negP (dC (.int 1))))))
theorem m_Auction_last_bid : ∀ ds S P, sp_Auction_last_bid ds S P → d_Auction_last_bid (DEnds.fin P) (startD ["self", "places", "at", "call"] ds) S := by
  rintro ds S P ⟨a, p, B, dl, cs, rfl, W, h⟩
  show d_Auction_last_bid (DEnds.fin P) [some (.ref a), none, none, none] S
  unfold d_Auction_last_bid
  have hA := W.a
  have hP := W.p
  refine nxt fun N hN => ?_
  repeat (first | walk_at "dd" | simp only [hA, look_calls, lstOf_cell hP, walkOf_cell hP])
  refine ⟨auc_mem, ?_⟩
  rw [enD_enK]
  have hs := W.small
  refine lcD_enum (p := Cl.isBid) hP ?_ cs 0 [] (by rw [List.length_nil]; exact Nat.le_of_lt (small_size (by omega))) ?_
  · rintro i c Ky Kn h1 h2
    cases c <;> simp only [Cl.d] <;> walk_at "dd"
    · exact h2 rfl
    · exact h2 rfl
    · exact h2 rfl
    · exact h1 rfl
  · subst hN
    exact last_ret h
def lastN (cs : List Cl) : Int := lastOf (plc Cl.notPass 0 cs)
def lastB (cs : List Cl) : Int := lastOf (plc Cl.isBid 0 cs)
def over (cs : List Cl) : Bool := decide (4 ≤ (cs.length : Int) - 1 - lastN cs) || (decide ((cs.length : Int) - 1 - lastN cs = 3) && decide (0 ≤ lastN cs))
def sp_Auction_is_over : DSp := fun as S P => ∃ (a p : Addr) (B : List Cl) (dl : Nat) (cs : List Cl), as = [.ref a] ∧ AucAt S a p B dl cs ∧ P (.bl (over cs)) S
def d_Auction_is_over : DS :=
  (dSeq (dAsg (dOp subP (dOp subP (dCB lenP (dCons (dFld ["Auction"] "_calls" (dVar 0)) dNil)) (dC (.int 1))) (dMeth ["Auction"] "last" sp_Auction_last (dVar 0) dNil)) (dgName 1))
  (dRet (dOrV (dOp geP (dVar 1) (dC (.int 4))) (dAndV (dOp eqP (dVar 1) (dC (.int 3))) (dOp geP (dMeth ["Auction"] "last" sp_Auction_last (dVar 0) dNil) (dC (.int 0)))))))
theorem m_Auction_is_over : ∀ ds S P, sp_Auction_is_over ds S P → d_Auction_is_over (DEnds.fin P) (startD ["self", "passes"] ds) S := by
  rintro ds S P ⟨a, p, B, dl, cs, rfl, W, h⟩
  show d_Auction_is_over (DEnds.fin P) [some (.ref a), none] S
  unfold d_Auction_is_over
  have hA := W.a
  have hP := W.p
  refine nxt fun N hN => ?_
  repeat (first | walk_at "dd" | simp only [hA, look_calls, seqOf_cell hP, List.length_map])
  refine ⟨auc_mem, auc_mem, look_m (by decide), a, p, B, dl, cs, rfl, W, ?_⟩
  dsimp only
  subst hN
  repeat (first | walk_at "dd" | simp only [hA])
  unfold over lastN at h
  by_cases q : 4 ≤ (cs.length : Int) - 1 - lastOf (plc Cl.notPass 0 cs)
  · rw [if_pos q]
    rw [decide_eq_true q, Bool.true_or] at h
    exact h
  · rw [if_neg q]
    rw [decide_eq_false q, Bool.false_or] at h
    by_cases r : (cs.length : Int) - 1 - lastOf (plc Cl.notPass 0 cs) = 3
    · rw [if_pos r]
      rw [decide_eq_true r, Bool.true_and] at h
      exact ⟨auc_mem, look_m (by decide), a, p, B, dl, cs, rfl, W, h⟩
    · rw [if_neg r]
      rw [decide_eq_false r, Bool.false_and] at h
      exact h
end DL
set_option autoImplicit false
namespace DL
open PySem L2 PySem.Spec PyProof.Rows
local macro_rules | `(tactic| walk_at "dd") => `(tactic| simp only [dRet, dRetW, dRetF, dOp, dVar, dC, dIf, dT, dUn, dChain, dAndV, dOrV, dNotV, dAnd, dOr, dNot, dNil, dCons, dTup, dLst, dVal, dCell, dCB, dCall, dMeth, dMake, dSeq, dAsg, dAug, dIfS, dNext, dDrop, dgName, dgNil, dgCons, dgTup, DEnds.fin, dFld, dFldS, dFor, dLc, dAny, dRng1, dRng2, dEnum, dNever, dSl, dPart, dNoPart, dBM, dDisp, dPairs,
  modP, addP, subP, mulP, fdivP, lessP, leP, gtP, geP, eqP, neP, isNP, iaddP, negP, ixP_tup, ixP_lst, ixP_frz, ixP_str, atI_a0, atI_a1, atI_a2, atI_a3, atI_a4, atI_a5, seqOf_tup, seqOf_lst, seqOf_frz, lstOf_lst, lstOf_tup, walkOf_tup, walkOf_lst, walkOf_str, datOf_tup, datOf_lst, Cell.lst.injEq, D.lst.injEq, String.reduceEq, D.isNon, lenP, intP, List.getElem?_cons_zero, List.getElem?_cons_succ, Option.some.injEq, Prod.mk.injEq, exists_eq_left', exists_eq_left, D.int.injEq, D.bl.injEq, D.str.injEq, D.tup.injEq, D.ref.injEq, Cell.ins.injEq, List.cons.injEq, and_true, true_and, and_self, List.set_cons_zero, List.set_cons_succ, reduceCtorEq, List.map_cons, List.map_nil, List.nil_append, List.cons_append, startD, List.length_cons, List.length_nil, List.replicate, wipeD, put_same, rgD_len0, List.map_cons, List.append_nil, tyD, isiP, decide_true, decide_false, Bool.true_and, Bool.false_and, Bool.and_true, Bool.and_false, Bool.or_true, Bool.or_false, Bool.true_or, Bool.false_or, Bool.not_true, Bool.not_false, powP, minU, maxU, min2P, max2P, dgSub, dCat, dListOf, strP, decide_eq_true_eq, and_assoc, exists_and_left, exists_eq, Bool.not_eq_true', decide_eq_false_iff_not, exists_false, false_and, ↓reduceIte, Bool.false_eq_true, if_true, if_false, Int.reduceLT, Int.reduceNeg, Nat.reduceAdd])
theorem nxtE' {a u : DS} {DD : DEnds} {ρ : Rho} {S S' : Sg} (ρ' : Rho) (h1 : ∀ N : Rho → Sg → Prop, N ρ' S' → a ⟨N, DD.rt, DD.bk, DD.ct⟩ ρ S) (h2 : u DD ρ' S') : dSeq a u DD ρ S := h1 _ h2
theorem AucAt.new {S : Sg} {a p f : Addr} {B : List Cl} {dl : Nat} {cs : List Cl} {c : Cell} (W : AucAt S a p B dl cs) (h : S f = none) : AucAt (put S f c) a p B dl cs :=
  ⟨by rw [put_ne (fun e => by have := W.a; rw [e, h] at this; cases this)]; exact W.a, by rw [put_ne (fun e => by have := W.p; rw [e, h] at this; cases this)]; exact W.p, W.small⟩
theorem plc_mem {p : Cl → Bool} {n : Nat} : ∀ {k : Nat} {cs : List Cl}, n ∈ plc p k cs → ∃ i c, n = k + i ∧ cs[i]? = some c ∧ p c = true
  | k, c :: r, h => by
    unfold plc at h
    split at h
    · rename_i e
      rcases List.mem_cons.mp h with rfl | h
      · exact ⟨0, c, rfl, rfl, e⟩
      · obtain ⟨i, d, rfl, q, z⟩ := plc_mem h
        exact ⟨i + 1, d, by omega, q, z⟩
    · obtain ⟨i, d, rfl, q, z⟩ := plc_mem h
      exact ⟨i + 1, d, by omega, q, z⟩
theorem lastOf_get {p : Cl → Bool} {cs : List Cl} : (lastOf (plc p 0 cs) = -1 ∧ plc p 0 cs = []) ∨ ∃ (n : Nat) (c : Cl), lastOf (plc p 0 cs) = (n : Nat) ∧ cs[n]? = some c ∧ p c = true := by
  unfold lastOf
  cases h : (plc p 0 cs).getLast? with
  | none => exact .inl ⟨rfl, List.getLast?_eq_none_iff.mp h⟩
  | some n =>
    obtain ⟨i, c, e, q, z⟩ := plc_mem (List.mem_of_getLast? h)
    rw [Nat.zero_add] at e
    subst e
    exact .inr ⟨n, c, rfl, q, z⟩
theorem getD_map {cs : List Cl} {n : Nat} {c : Cl} (h : cs[n]? = some c) : (cs.map Cl.d)[n]? = some c.d := by rw [List.getElem?_map, h]; rfl
/-- double or redouble -/
def extraC : Cl → List Cl
  | .bid _ _ => [.dbl]
  | .dbl => [.rdbl]
  | _ => []
def extra (dl : Nat) (cs : List Cl) : List Cl := if 0 ≤ lastN cs ∧ plr dl (lastN cs).toNat % 2 ≠ plr dl cs.length % 2 then (match cs[(lastN cs).toNat]? with | some c => extraC c | none => []) else []
def LowIs (B cs : List Cl) (low : Nat) : Prop := (lastB cs < 0 ∧ low = 0) ∨ ∃ (n j : Nat) (c : Cl), lastB cs = (n : Nat) ∧ cs[n]? = some c ∧ B[j]? = some c ∧ (∀ m : Nat, m < j → B[m]? ≠ some c) ∧ low = j + 1
def legalL (B : List Cl) (dl : Nat) (cs : List Cl) (low : Nat) : List Cl := if over cs = true then [] else .pass :: extra dl cs ++ B.drop low
def sp_Auction_legal : DSp := fun as S P => ∃ (a p : Addr) (B : List Cl) (dl : Nat) (cs : List Cl) (low : Nat), as = [.ref a] ∧ AucAt S a p B dl cs ∧ B.length < 1000 ∧ LowIs B cs low ∧ P (.lst ((legalL B dl cs low).map Cl.d)) S
def d_Auction_legal : DS :=
  (dSeq (dIfS (dT (dMeth ["Auction"] "is_over" sp_Auction_is_over (dVar 0) dNil)) (dRetW (dVal (dLst dNil))) dNext)
  (dSeq (dAsg (dMeth ["Auction"] "last" sp_Auction_last (dVar 0) dNil) (dgName 1))
  (dSeq (dAsg (dCell (dLst (dCons (dC v_PASS) dNil))) (dgName 2))
  (dSeq (dIfS (dAnd (dT (dOp geP (dVar 1) (dC (.int 0)))) (dT (dOp neP (dCall sp_side_of (dCons (dMeth ["Auction"] "player_of" sp_Auction_player_of (dVar 0) (dCons (dVar 1) dNil)) dNil)) (dCall sp_side_of (dCons (dMeth ["Auction"] "turn" sp_Auction_turn (dVar 0) dNil) dNil))))) (dSeq (dIfS (dT (dOp eqP (dOp ixP (dOp ixP (dFld ["Auction"] "_calls" (dVar 0)) (dVar 1)) (dC (.int 0))) (dC (.str "bid")))) (dDrop (dBM isL appendP (dVar 2) (dCons (dC v_DOUBLE) dNil))) dNext)
  (dIfS (dT (dOp eqP (dOp ixP (dFld ["Auction"] "_calls" (dVar 0)) (dVar 1)) (dC v_DOUBLE))) (dDrop (dBM isL appendP (dVar 2) (dCons (dC v_REDOUBLE) dNil))) dNext)) dNext)
  (dSeq (dAsg (dMeth ["Auction"] "last_bid" sp_Auction_last_bid (dVar 0) dNil) (dgName 3))
  (dSeq (dAsg (dIf (dT (dOp lessP (dVar 3) (dC (.int 0)))) (dC (.int 0)) (dOp addP (dBM isL indexP (dFld ["Auction"] "_bids" (dVar 0)) (dCons (dOp ixP (dFld ["Auction"] "_calls" (dVar 0)) (dVar 3)) dNil)) (dC (.int 1)))) (dgName 4))
  (dRetW (dOp addP (dVar 2) (dSl (dFld ["Auction"] "_bids" (dVar 0)) (dPart (dVar 4)) dNoPart)))))))))
theorem ok_lst {B : List Cl} : (D.lst (B.map Cl.d)).ok = true := by
  unfold D.ok
  have h1 : D.plainL (B.map Cl.d) = true := by
    rw [D.plainL_all, List.all_eq_true]
    intro x hx
    obtain ⟨c, _, rfl⟩ := List.mem_map.mp hx
    exact D.ok_plain c.ok
  have h2 : D.depL (B.map Cl.d) ≤ 1 := by
    induction B with
    | nil => simp [D.depL]
    | cons c B ih =>
      have : c.d.dep ≤ 1 := by cases c <;> simp [Cl.d, D.dep, D.depL]
      simp only [D.plainL, List.map_cons, Bool.and_eq_true] at h1
      have := ih h1.2
      simp only [List.map_cons, D.depL]; omega
  rw [D.plain, h1, Bool.true_and, D.dep, decide_eq_true_eq]
  omega
theorem less_put2 {S : Sg} {p : Addr} {c d : Cell} (h : S p = none) : Less S (put (put S p c) p d) := by rw [put_put]; exact less_put h
theorem cutD_from {α : Type} {xs : List α} {n : Nat} (h : n ≤ xs.length) : cutD xs (some (n : Int)) none = xs.drop n := by
  unfold cutD
  rw [HT.sIx_none, HT.sIx_nat, Nat.min_eq_left h]
  exact List.take_of_length_le (by rw [List.length_drop]; omega)
theorem m_Auction_legal : ∀ ds S P, sp_Auction_legal ds S P → d_Auction_legal (DEnds.fin P) (startD ["self", "last", "found", "at", "lowest"] ds) S := by
  rintro ds S P ⟨a, p, B, dl, cs, low, rfl, W, hB, hlow, h⟩
  show d_Auction_legal (DEnds.fin P) [some (.ref a), none, none, none, none] S
  unfold d_Auction_legal
  have hA := W.a
  have hP := W.p
  have hs := W.small
  refine nxt fun N hN => ?_
  repeat (first | walk_at "dd" | simp only [hA])
  refine ⟨auc_mem, look_m (by decide), a, p, B, dl, cs, rfl, W, ?_⟩
  dsimp only
  walk_at "dd"
  unfold legalL at h
  by_cases ov : over cs = true
  · rw [if_pos ov]
    rw [if_pos ov] at h
    exact ⟨by decide, S, fun _ _ e => e, h⟩
  rw [if_neg ov]
  rw [if_neg ov] at h
  subst hN
  refine nxt fun N hN => ?_
  repeat (first | walk_at "dd" | simp only [hA])
  refine ⟨auc_mem, look_m (by decide), a, p, B, dl, cs, rfl, W, ?_⟩
  show N [some (.ref a), some (.int (lastN cs)), none, none, none] S
  subst hN
  refine nxt fun N hN => ?_
  walk_at "dd"
  refine ⟨by decide, fun f hf => ?_⟩
  subst hN
  have W1 := fun c => W.new (c := c) hf
  have hA1 := fun c => (W1 c).a
  have hP1 := fun c => (W1 c).p
  refine nxtE' (S' := put S f (.lst ((Cl.pass :: extra dl cs).map Cl.d))) [some (.ref a), some (.int (lastN cs)), some (.ref f), none, none] (fun N hn => ?_) ?_
  · unfold extra at hn
    rcases lastOf_get (p := Cl.notPass) (cs := cs) with ⟨e, _⟩ | ⟨n, c, e, hc, hnp⟩
    · have e' : lastN cs = -1 := e
      rw [e'] at hn ⊢
      walk_at "dd"
      rw [if_neg (fun z => absurd z.1 (by decide))] at hn
      rw [if_neg (by decide)]
      exact hn
    · have e' : lastN cs = (n : Nat) := e
      rw [e'] at hn ⊢
      walk_at "dd"
      rw [if_pos (by omega)]
      repeat (first | walk_at "dd" | simp only [hA1])
      refine ⟨auc_mem, look_m (by decide), a, p, B, dl, cs, n, rfl, W1 _, _, rfl, ?_⟩
      repeat (first | walk_at "dd" | simp only [hA1])
      refine ⟨auc_mem, look_m (by decide), a, p, B, dl, cs, rfl, W1 _, _, rfl, ?_⟩
      walk_at "dd"
      rw [Int.toNat_natCast, hc] at hn
      by_cases q : plr dl n % 2 = plr dl cs.length % 2
      · rw [if_neg (fun z => z.2 q)] at hn
        rw [if_neg (by omega)]
        exact hn
      · rw [if_pos ⟨by omega, q⟩] at hn
        rw [if_pos (by omega)]
        have hc' := atI_natD (getD_map hc)
        have hok := c.ok
        repeat (first | walk_at "dd" | simp only [hA1, look_calls, ixP_cell (hP1 _), hc'])
        refine ⟨auc_mem, ?_⟩
        cases c with
        | pass => cases hnp
        | bid l s =>
          simp only [Cl.d] at hc' hok ⊢
          walk_at "dd"
          refine ⟨isL_cell put_same, _, _, _, rfl, put_same, rfl, by decide, ?_⟩
          simp only [put_put]
          repeat (first | walk_at "dd" | simp only [hA1, look_calls, ixP_cell (hP1 _), hc'])
          refine ⟨auc_mem, hok, Cl.ok .dbl, ?_⟩
          exact hn
        | dbl =>
          simp only [Cl.d] at hc' hok ⊢
          walk_at "dd"
          rw [if_neg (by decide)]
          repeat (first | walk_at "dd" | simp only [hA1, look_calls, ixP_cell (hP1 _), hc'])
          refine ⟨auc_mem, hok, Cl.ok .dbl, ?_⟩
          refine ⟨isL_cell put_same, _, _, _, rfl, put_same, rfl, by decide, ?_⟩
          simp only [put_put]
          exact hn
        | rdbl =>
          simp only [Cl.d] at hc' hok ⊢
          walk_at "dd"
          rw [if_neg (by decide)]
          repeat (first | walk_at "dd" | simp only [hA1, look_calls, ixP_cell (hP1 _), hc'])
          refine ⟨auc_mem, hok, Cl.ok .dbl, ?_⟩
          rw [if_neg (by decide)]
          exact hn
  · have W2 := W.new (c := .lst ((Cl.pass :: extra dl cs).map Cl.d)) hf
    have hF : put S f (.lst ((Cl.pass :: extra dl cs).map Cl.d)) f = some (.lst ((Cl.pass :: extra dl cs).map Cl.d)) := put_same
    have hL : Less S (put S f (.lst ((Cl.pass :: extra dl cs).map Cl.d))) := less_put hf
    generalize put S f (.lst ((Cl.pass :: extra dl cs).map Cl.d)) = S2 at W2 hF hL ⊢
    have hA2 := W2.a
    have hP2 := W2.p
    refine nxt fun N hN => ?_
    repeat (first | walk_at "dd" | simp only [hA2])
    refine ⟨auc_mem, look_m (by decide), a, p, B, dl, cs, rfl, W2, ?_⟩
    show N [some (.ref a), some (.int (lastN cs)), some (.ref f), some (.int (lastB cs)), none] _
    subst hN
    have hll : low ≤ B.length := by
      rcases hlow with ⟨_, e⟩ | ⟨n, j, c, _, _, hb, _, e⟩
      · omega
      · have := (List.getElem?_eq_some_iff.mp hb).1; omega
    refine nxtE [some (.ref a), some (.int (lastN cs)), some (.ref f), some (.int (lastB cs)), some (.int (low : Nat))] (fun N hn => ?_) ?_
    · walk_at "dd"
      rcases hlow with ⟨e1, e2⟩ | ⟨n, j, c, e1, hc, hb, hm, e2⟩
      · rw [if_pos e1]
        subst e2
        exact hn
      · rw [e1, if_neg (by omega)]
        rw [e1] at hn
        have hc' := atI_natD (getD_map hc)
        repeat (first | walk_at "dd" | simp only [hA2, look_calls, look_bids, ixP_cell hP2, hc'])
        refine ⟨auc_mem, isL_lst, auc_mem, B.map Cl.d, c.d, j, rfl, rfl, ok_lst, c.ok, getD_map hb, fun m hm2 q => ?_, ?_⟩
        · rw [List.getElem?_map] at q
          obtain ⟨c', h1, h2⟩ := Option.map_eq_some_iff.mp q
          rw [Cl.inj _ _ h2] at h1
          exact hm m hm2 h1
        · walk_at "dd"
          subst e2
          exact hn
    · repeat (first | walk_at "dd" | simp only [hA2, look_bids, slP, lstOf_cell hF])
      have hx : (extra dl cs).length ≤ 1 := by
        unfold extra
        split
        · split
          · rename_i c _
            cases c <;> simp [extraC]
          · simp
        · simp
      have e : cutD (B.map Cl.d) (some (low : Int)) none = (B.drop low).map Cl.d := by rw [cutD_from (by rw [List.length_map]; exact hll), List.map_drop]
      rw [e]
      refine ⟨auc_mem, ?_, S, hL, ?_⟩
      · simp only [List.length_map, List.length_drop, List.length_cons]
        exact Nat.le_of_lt (small_size (by omega))
      · rw [List.map_append] at h
        exact h
/-! call, contract -/
def sp_Auction_call : DSp := fun as S P => ∃ (a p : Addr) (B : List Cl) (dl : Nat) (cs : List Cl) (low : Nat) (c : Cl), as = [.ref a, c.d] ∧ AucAt S a p B dl cs ∧ B.length < 1000 ∧ LowIs B cs low ∧ over cs = false ∧ c ∈ legalL B dl cs low ∧ P .non (put S p (.lst ((cs ++ [c]).map Cl.d)))
def d_Auction_call : DS :=
  (dSeq (dIfS (dT (dMeth ["Auction"] "is_over" sp_Auction_is_over (dVar 0) dNil)) dNever dNext)
  (dSeq (dIfS (dT (dOp notinU (dVar 1) (dMeth ["Auction"] "legal" sp_Auction_legal (dVar 0) dNil))) dNever dNext)
  (dDrop (dBM isL appendP (dFld ["Auction"] "_calls" (dVar 0)) (dCons (dVar 1) dNil)))))
theorem m_Auction_call : ∀ ds S P, sp_Auction_call ds S P → d_Auction_call (DEnds.fin P) (startD ["self", "call"] ds) S := by
  rintro ds S P ⟨a, p, B, dl, cs, low, c, rfl, W, hB, hlow, ov, hc, h⟩
  show d_Auction_call (DEnds.fin P) [some (.ref a), some c.d] S
  unfold d_Auction_call
  have hA := W.a
  have hP := W.p
  have hs := W.small
  refine nxt fun N hN => ?_
  repeat (first | walk_at "dd" | simp only [hA])
  refine ⟨auc_mem, look_m (by decide), a, p, B, dl, cs, rfl, W, ?_⟩
  walk_at "dd"
  rw [ov, if_neg Bool.false_ne_true]
  subst hN
  refine nxt fun N hN => ?_
  repeat (first | walk_at "dd" | simp only [hA])
  refine ⟨auc_mem, look_m (by decide), a, p, B, dl, cs, low, rfl, W, hB, hlow, ?_⟩
  simp only [notinU, inU, inP]
  have hin : decide (c.d ∈ (legalL B dl cs low).map Cl.d) = true := decide_eq_true (List.mem_map.mpr ⟨c, hc, rfl⟩)
  refine ⟨c.ok, ok_lst, _, rfl, _, rfl, ?_⟩
  rw [hin, if_neg (by decide)]
  subst hN
  repeat (first | walk_at "dd" | simp only [hA, look_calls])
  refine ⟨auc_mem, isL_cell hP, p, _, _, rfl, hP, rfl, by rw [List.length_map]; exact small_size (by omega), ?_⟩
  rw [List.map_append] at h
  exact h
/-- a dict display of three texts -/
theorem disp3 {a b c : Str} {x y z : D} (h1 : a ≠ b) (h2 : a ≠ c) (h3 : b ≠ c) : dDisp [(dC (.str a), dC x), (dC (.str b), dC y), (dC (.str c), dC z)] = fun _ S P => ∀ q, S q = none → P (.ref q) (put S q (.dK [(.inr a, x), (.inr b, y), (.inr c, z)])) := by
  have e : mergeD [] [(.inr a, x), (.inr b, y), (.inr c, z)] = [(.inr a, x), (.inr b, y), (.inr c, z)] := by
    simp [mergeD, putKD, h1, h2, h3]
  funext ρ S P
  apply propext
  simp only [dDisp, dPairs, dC, keysD, keyD]
  constructor
  · rintro ⟨kvs, hk, _, h⟩ q hq
    cases hk
    rw [e] at h
    exact h q hq
  · intro h
    exact ⟨_, rfl, (by decide : (3 : Nat) ≤ 15), by rw [e]; exact h⟩
theorem val3 {a b c : Str} {x y z : D} (h1 : a ≠ b) (h2 : a ≠ c) (h3 : b ≠ c) : valD [((Sum.inr a : Key), x), (.inr b, y), (.inr c, z)] (.inr a) = some x ∧ valD [((Sum.inr a : Key), x), (.inr b, y), (.inr c, z)] (.inr b) = some y ∧ valD [((Sum.inr a : Key), x), (.inr b, y), (.inr c, z)] (.inr c) = some z := by
  refine ⟨?_, ?_, ?_⟩ <;> simp [valD, h1, h2, h3]
def dblOf : Cl → Nat
  | .dbl => 1
  | .rdbl => 2
  | _ => 0
def sp_Auction_contract : DSp := fun as S P => ∃ (a p : Addr) (B : List Cl) (dl : Nat) (cs : List Cl), as = [.ref a] ∧ AucAt S a p B dl cs ∧ over cs = true ∧
  ((lastB cs < 0 ∧ P .non S) ∨ ∃ (n l s m k lk : Nat) (c0 : Cl), lastB cs = (n : Nat) ∧ cs[n]? = some (.bid l s) ∧ lastN cs = (m : Nat) ∧ cs[m]? = some c0 ∧ c0.notPass = true ∧
    cs[k]? = some (.bid lk s) ∧ plr dl k % 2 = plr dl n % 2 ∧ (∀ j : Nat, j < k → ∀ lj : Nat, cs[j]? = some (.bid lj s) → plr dl j % 2 ≠ plr dl n % 2) ∧ P (.tup [.int (l : Nat), .int (s : Nat), .int (dblOf c0 : Nat), .int (plr dl k : Nat)]) S)
def d_Auction_contract : DS :=
  (dSeq (dIfS (dNot (dT (dMeth ["Auction"] "is_over" sp_Auction_is_over (dVar 0) dNil))) dNever dNext)
  (dSeq (dAsg (dMeth ["Auction"] "last_bid" sp_Auction_last_bid (dVar 0) dNil) (dgName 1))
  (dSeq (dIfS (dT (dOp lessP (dVar 1) (dC (.int 0)))) (dRetW (dC .non)) dNext)
  (dSeq (dAsg (dOp ixP (dFld ["Auction"] "_calls" (dVar 0)) (dVar 1)) (dgTup (dgCons (dgName 2) (dgCons (dgName 3) (dgCons (dgName 4) dgNil)))))
  (dSeq (dAsg (dOp ixP (dDisp [((dC (.str "bid")), (dC (.int 0))), ((dC (.str "double")), (dC (.int 1))), ((dC (.str "redouble")), (dC (.int 2)))]) (dOp ixP (dOp ixP (dFld ["Auction"] "_calls" (dVar 0)) (dMeth ["Auction"] "last" sp_Auction_last (dVar 0) dNil)) (dC (.int 0)))) (dgName 5))
  (dSeq (dAsg (dCall sp_side_of (dCons (dMeth ["Auction"] "player_of" sp_Auction_player_of (dVar 0) (dCons (dVar 1) dNil)) dNil)) (dgName 6))
  (dSeq (dFor (dEnum (dCons (dFld ["Auction"] "_calls" (dVar 0)) dNil)) (dgTup (dgCons (dgName 7) (dgCons (dgName 8) dgNil))) (dIfS (dAnd (dT (dOp eqP (dOp ixP (dVar 8) (dC (.int 0))) (dC (.str "bid")))) (dAnd (dT (dOp eqP (dOp ixP (dVar 8) (dC (.int 2))) (dVar 4))) (dT (dOp eqP (dCall sp_side_of (dCons (dMeth ["Auction"] "player_of" sp_Auction_player_of (dVar 0) (dCons (dVar 7) dNil)) dNil)) (dVar 6))))) (dRetW (dTup (dCons (dVar 3) (dCons (dVar 4) (dCons (dVar 5) (dCons (dMeth ["Auction"] "player_of" sp_Auction_player_of (dVar 0) (dCons (dVar 7) dNil)) dNil)))))) dNext))
  (dRetW (dC .non)))))))))
theorem m_Auction_contract : ∀ ds S P, sp_Auction_contract ds S P → d_Auction_contract (DEnds.fin P) (startD ["self", "at", "_", "level", "strain", "doubled", "side", "place", "call"] ds) S := by
  rintro ds S P ⟨a, p, B, dl, cs, rfl, W, ov, h⟩
  show d_Auction_contract (DEnds.fin P) [some (.ref a), none, none, none, none, none, none, none, none] S
  unfold d_Auction_contract
  have hA := W.a
  have hP := W.p
  have hs := W.small
  refine nxt fun N hN => ?_
  repeat (first | walk_at "dd" | simp only [hA])
  refine ⟨auc_mem, look_m (by decide), a, p, B, dl, cs, rfl, W, ?_⟩
  walk_at "dd"
  rw [ov, if_neg (by decide)]
  subst hN
  refine nxt fun N hN => ?_
  repeat (first | walk_at "dd" | simp only [hA])
  refine ⟨auc_mem, look_m (by decide), a, p, B, dl, cs, rfl, W, ?_⟩
  show N [some (.ref a), some (.int (lastB cs)), none, none, none, none, none, none, none] S
  subst hN
  refine nxt fun N hN => ?_
  walk_at "dd"
  rcases h with ⟨e, h⟩ | ⟨n, l, s, m, k, lk, c0, e1, hn, e2, hm, hnp, hk, hside, hfirst, h⟩
  · rw [if_pos e]
    exact ⟨S, fun _ _ e => e, h⟩
  rw [e1, if_neg (by omega)]
  subst hN
  refine nxt fun N hN => ?_
  have hn' := atI_natD (getD_map hn)
  repeat (first | walk_at "dd" | simp only [hA, look_calls, ixP_cell hP, hn', Cl.d])
  refine ⟨auc_mem, ?_⟩
  subst hN
  refine nxt fun N hN => ?_
  simp only [disp3 (show ("bid" : Str) ≠ "double" by decide) (show ("bid" : Str) ≠ "redouble" by decide) (show ("double" : Str) ≠ "redouble" by decide)]
  repeat (first | walk_at "dd" | simp only [hA])
  intro q hq
  have W1 := W.new (c := .dK [(.inr "bid", .int 0), (.inr "double", .int 1), (.inr "redouble", .int 2)]) hq
  have hL := less_put (c := .dK [(.inr "bid", .int 0), (.inr "double", .int 1), (.inr "redouble", .int 2)]) hq
  have hQ : put S q (.dK [(.inr "bid", .int 0), (.inr "double", .int 1), (.inr "redouble", .int 2)]) q = _ := put_same
  generalize put S q (.dK [(.inr "bid", .int 0), (.inr "double", .int 1), (.inr "redouble", .int 2)]) = S1 at W1 hL hQ ⊢
  have hA1 := W1.a
  have hP1 := W1.p
  have hm' := atI_natD (getD_map hm)
  repeat (first | walk_at "dd" | simp only [hA1, look_calls])
  refine ⟨auc_mem, auc_mem, look_m (by decide), a, p, B, dl, cs, rfl, W1, ?_⟩
  rw [show lastOf (plc Cl.notPass 0 cs) = (m : Nat) from e2]
  simp only [ixP_cell hP1, hm']
  walk_at "dd"
  have hv : ∃ z, c0.d = .tup (.str z :: match c0 with | .bid l s => [.int (l : Nat), .int (s : Nat)] | _ => []) ∧ valD [((Sum.inr "bid" : Key), .int 0), (.inr "double", .int 1), (.inr "redouble", .int 2)] (.inr z) = some (.int (dblOf c0 : Nat)) := by
    have v3 := val3 (x := .int 0) (y := .int 1) (z := .int 2) (show ("bid" : Str) ≠ "double" by decide) (show ("bid" : Str) ≠ "redouble" by decide) (show ("double" : Str) ≠ "redouble" by decide)
    cases c0 with
    | pass => cases hnp
    | dbl => exact ⟨_, rfl, v3.2.1⟩
    | rdbl => exact ⟨_, rfl, v3.2.2⟩
    | bid l s => exact ⟨_, rfl, v3.1⟩
  obtain ⟨z, ez, hz⟩ := hv
  rw [ez]
  repeat (first | walk_at "dd" | simp only [ixP_dict hQ, keyD])
  refine ⟨_, hz, ?_⟩
  subst hN
  refine nxt fun N hN => ?_
  repeat (first | walk_at "dd" | simp only [hA1])
  refine ⟨auc_mem, look_m (by decide), a, p, B, dl, cs, n, rfl, W1, _, rfl, ?_⟩
  subst hN
  refine nxt fun N hN => ?_
  simp only [dFor, dEnum, dCons, dNil, dVar, dFld, List.getElem?_cons_zero, Option.some.injEq, exists_eq_left', hA1, D.ref.injEq, Cell.ins.injEq, and_assoc, exists_and_left, look_calls, List.cons.injEq, and_true, lstOf_cell hP1, walkOf_cell hP1, Prod.mk.injEq]
  refine ⟨auc_mem, trivial, forD_inv (fun i ρ S' => S' = S1 ∧ i ≤ k ∧ ∃ x y, ρ = [some (.ref a), some (.int (n : Nat)), some (.str "bid"), some (.int (l : Nat)), some (.int (s : Nat)), some (.int (dblOf c0 : Nat)), some (.int ((plr dl n : Nat) % 2)), x, y]) ⟨rfl, Nat.zero_le _, _, _, rfl⟩ ?_ ?_⟩
  · rintro i ρ S' x N' hx ⟨rfl, hik, u, v, rfl⟩ hN'
    rw [enD_enK, enK_get, List.getElem?_map] at hx
    obtain ⟨d, hd, rfl⟩ := Option.map_eq_some_iff.mp hx
    obtain ⟨c, hc, rfl⟩ := Option.map_eq_some_iff.mp hd
    rw [Nat.zero_add]
    refine ⟨hP1, ?_⟩
    have nx : i ≠ k → ∀ x y, N' [some (.ref a), some (.int (n : Nat)), some (.str "bid"), some (.int (l : Nat)), some (.int (s : Nat)), some (.int (dblOf c0 : Nat)), some (.int ((plr dl n : Nat) % 2)), x, y] S' := fun ne x y => hN' _ _ ⟨rfl, by omega, x, y, rfl⟩
    cases c with
    | pass => 
      simp only [Cl.d]
      walk_at "dd"
      rw [if_neg (by decide)]
      skip
      exact nx (fun e => by rw [e, hk] at hc; cases hc) _ _
    | dbl => 
      simp only [Cl.d]
      walk_at "dd"
      rw [if_neg (by decide)]
      skip
      exact nx (fun e => by rw [e, hk] at hc; cases hc) _ _
    | rdbl => 
      simp only [Cl.d]
      walk_at "dd"
      rw [if_neg (by decide)]
      skip
      exact nx (fun e => by rw [e, hk] at hc; cases hc) _ _
    | bid l2 s2 =>
      simp only [Cl.d]
      walk_at "dd"
      by_cases es : s2 = s
      · subst es
        rw [if_pos rfl]
        repeat (first | walk_at "dd" | simp only [hA1])
        refine ⟨auc_mem, look_m (by decide), a, p, B, dl, cs, i, rfl, W1, _, rfl, ?_⟩
        walk_at "dd"
        by_cases ep : plr dl i % 2 = plr dl n % 2
        · rw [if_pos (by omega)]
          have eik : i = k := by
            rcases Nat.lt_or_eq_of_le hik with h | h
            · exact absurd ep (hfirst i h _ hc)
            · exact h
          subst eik
          repeat (first | walk_at "dd" | simp only [hA1])
          exact ⟨auc_mem, look_m (by decide), a, p, B, dl, cs, i, rfl, W1, by decide, S, hL, h⟩
        · rw [if_neg (by omega)]
          exact nx (fun e => ep (by rw [e]; exact hside)) _ _
      · rw [if_neg (by omega)]
        skip
        exact nx (fun e => by rw [e, hk] at hc; cases hc; exact es rfl) _ _
  · rintro ρ S' ⟨rfl, hik, u, v, rfl⟩
    exfalso
    have := (List.getElem?_eq_some_iff.mp hk).1
    rw [enD_enK, enK_len, List.length_map] at hik
    omega
end DL
set_option autoImplicit false
namespace DL
open PySem L2 PySem.Spec PyProof.Rows
local macro_rules | `(tactic| walk_at "dd") => `(tactic| simp only [dRet, dRetW, dRetF, dOp, dVar, dC, dIf, dT, dUn, dChain, dAndV, dOrV, dNotV, dAnd, dOr, dNot, dNil, dCons, dTup, dLst, dVal, dCell, dCB, dCall, dMeth, dMake, dSeq, dAsg, dAug, dIfS, dNext, dDrop, dgName, dgNil, dgCons, dgTup, DEnds.fin, dFld, dFldS, dFor, dLc, dAny, dRng1, dRng2, dEnum, dNever, dSl, dPart, dNoPart, dBM, dDisp, dPairs,
  modP, addP, subP, mulP, fdivP, lessP, leP, gtP, geP, eqP, neP, isNP, iaddP, negP, ixP_tup, ixP_lst, ixP_frz, ixP_str, atI_a0, atI_a1, atI_a2, atI_a3, atI_a4, atI_a5, seqOf_tup, seqOf_lst, seqOf_frz, lstOf_lst, lstOf_tup, walkOf_tup, walkOf_lst, walkOf_str, datOf_tup, datOf_lst, Cell.lst.injEq, D.lst.injEq, String.reduceEq, D.isNon, lenP, intP, List.getElem?_cons_zero, List.getElem?_cons_succ, Option.some.injEq, Prod.mk.injEq, exists_eq_left', exists_eq_left, D.int.injEq, D.bl.injEq, D.str.injEq, D.tup.injEq, D.ref.injEq, Cell.ins.injEq, List.cons.injEq, and_true, true_and, and_self, List.set_cons_zero, List.set_cons_succ, reduceCtorEq, List.map_cons, List.map_nil, List.nil_append, List.cons_append, startD, List.length_cons, List.length_nil, List.replicate, wipeD, put_same, rgD_len0, List.map_cons, List.append_nil, tyD, isiP, decide_true, decide_false, Bool.true_and, Bool.false_and, Bool.and_true, Bool.and_false, Bool.or_true, Bool.or_false, Bool.true_or, Bool.false_or, Bool.not_true, Bool.not_false, powP, minU, maxU, min2P, max2P, dgSub, dCat, dListOf, strP, decide_eq_true_eq, and_assoc, exists_and_left, exists_eq, Bool.not_eq_true', decide_eq_false_iff_not, exists_false, false_and, ↓reduceIte, Bool.false_eq_true, if_true, if_false, Int.reduceLT, Int.reduceNeg, Nat.reduceAdd])
abbrev v_LETTERS : D := .str "cdhs"
abbrev v_TEXTS : List (Str × D) := [("P", v_PASS), ("X", v_DOUBLE), ("XX", v_REDOUBLE)]
/-- the text of a call -/
def bidText (su l s : Nat) : Str := Str.ofString (toString (l : Int)) ++ (if s = su then ("n" : Str) else ⟨#[("cdhs" : Str).cps.toList.getD s 0]⟩)
def textOf (su : Nat) : Cl → Str
  | .pass => "P"
  | .dbl => "X"
  | .rdbl => "XX"
  | .bid l s => bidText su l s
def Cl.fits (su : Nat) : Cl → Prop
  | .bid l s => 1 ≤ l ∧ l ≤ 7 ∧ s ≤ su
  | _ => True
def ltr (s : Nat) : Nat := ("cdhs" : Str).cps.toList.getD s 0
def digOk (su l s : Nat) : Bool :=
  decide ((l : Int).natAbs.log2 < 1920) && decide ((Str.ofString (toString (l : Int))).length + 1 ≤ 100) && (decide (s = su) || decide (atI ("cdhs" : Str).cps.toList (s : Int) = some (ltr s))) &&
  decide (((atI ((cutS "cdhs" none (some (su : Int))) ++ ("n" : Str)).cps.toList (s : Int)).map fun c => (⟨#[c]⟩ : Str)) = some (if s = su then ("n" : Str) else ⟨#[ltr s]⟩)) &&
  decide (v_TEXTS.lookup (bidText su l s) = none) && decide (cutS (bidText su l s) (some (-1)) none = if s = su then ("n" : Str) else ⟨#[ltr s]⟩) && decide ((⟨#[ltr s]⟩ : Str) ≠ "n" ∨ s = su) &&
  (decide (s = su) || decide (Txt.find (cutS "cdhs" none (some (su : Int))) ⟨#[ltr s]⟩ = (s : Int))) && decide (cutS (bidText su l s) none (some (-1)) = ⟨#[48 + l]⟩) && decide ((bidText su l s).length ≤ 100) && decide (((cutS "cdhs" none (some (su : Int)))).length + 1 ≤ 100) &&
  decide ((48 + l) ∈ ("0123456789" : Str).cps.toList) && decide (Txt.find "0123456789" ⟨#[48 + l]⟩ = (l : Int)) && decide ((⟨#[48 + l]⟩ : Str) ≠ "0")
theorem dig_tab : ((List.range 5).all fun su => (List.range 8).all fun l => (List.range 5).all fun s => decide (su = 0) || decide (l = 0) || decide (su < s) || digOk su l s) = true := by decide +kernel
theorem dig_all {su l s : Nat} (h1 : 1 ≤ su) (h2 : su ≤ 4) (h3 : 1 ≤ l) (h4 : l ≤ 7) (h5 : s ≤ su) : digOk su l s = true := by
  have h := List.all_eq_true.mp dig_tab su (List.mem_range.mpr (by omega))
  have h := List.all_eq_true.mp h l (List.mem_range.mpr (by omega))
  have h := List.all_eq_true.mp h s (List.mem_range.mpr (by omega))
  rwa [decide_eq_false (show ¬ su = 0 by omega), decide_eq_false (show ¬ l = 0 by omega), decide_eq_false (show ¬ su < s by omega), Bool.false_or, Bool.false_or, Bool.false_or] at h
def sp_call_text : DSp := fun as S P => ∃ (su : Nat) (c : Cl), as = [.int (su : Nat), c.d] ∧ 1 ≤ su ∧ su ≤ 4 ∧ c.fits su ∧ P (.str (textOf su c)) S
def d_call_text : DS :=
  (dSeq (dIfS (dT (dOp eqP (dOp ixP (dVar 1) (dC (.int 0))) (dC (.str "bid")))) (dRetW (dOp addP (dCB strP (dCons (dOp ixP (dVar 1) (dC (.int 1))) dNil)) (dIf (dT (dOp eqP (dOp ixP (dVar 1) (dC (.int 2))) (dVar 0))) (dC (.str "n")) (dOp ixP (dC v_LETTERS) (dOp ixP (dVar 1) (dC (.int 2))))))) dNext)
  (dRetW (dOp ixP (dDisp [((dC (.str "pass")), (dC (.str "P"))), ((dC (.str "double")), (dC (.str "X"))), ((dC (.str "redouble")), (dC (.str "XX")))]) (dOp ixP (dVar 1) (dC (.int 0))))))
theorem sz {n : Nat} (h : n ≤ 100) : n ≤ sizeLine := Nat.le_trans h (by decide)
theorem m_call_text : ∀ ds S P, sp_call_text ds S P → d_call_text (DEnds.fin P) (startD ["suits", "call"] ds) S := by
  rintro ds S P ⟨su, c, rfl, u1, u4, hf, h⟩
  show d_call_text (DEnds.fin P) [some (.int su), some c.d] S
  unfold d_call_text
  have h1 : ("pass" : Str) ≠ "double" := by decide
  have h2 : ("pass" : Str) ≠ "redouble" := by decide
  have h3 : ("double" : Str) ≠ "redouble" := by decide
  have v3 := val3 (x := .str "P") (y := .str "X") (z := .str "XX") h1 h2 h3
  simp only [disp3 h1 h2 h3]
  cases c with
  | pass =>
    simp only [Cl.d]
    walk_at "dd"
    rw [if_neg (by decide)]
    intro q hq
    simp only [ixP_dict put_same, keyD]
    exact ⟨_, _, rfl, v3.1, S, less_put hq, h⟩
  | dbl =>
    simp only [Cl.d]
    walk_at "dd"
    rw [if_neg (by decide)]
    intro q hq
    simp only [ixP_dict put_same, keyD]
    exact ⟨_, _, rfl, v3.2.1, S, less_put hq, h⟩
  | rdbl =>
    simp only [Cl.d]
    walk_at "dd"
    rw [if_neg (by decide)]
    intro q hq
    simp only [ixP_dict put_same, keyD]
    exact ⟨_, _, rfl, v3.2.2, S, less_put hq, h⟩
  | bid l s =>
    obtain ⟨l1, l7, hs⟩ := hf
    have D := dig_all u1 u4 l1 l7 hs
    unfold digOk at D
    simp only [Bool.and_eq_true, Bool.or_eq_true, decide_eq_true_eq] at D
    obtain ⟨⟨⟨⟨⟨⟨⟨⟨⟨⟨⟨⟨⟨d1, d2⟩, d3⟩, d4⟩, d5⟩, d6⟩, d7⟩, d8⟩, d9⟩, d10⟩, d11⟩, d12⟩, d13⟩, d14⟩ := D
    simp only [Cl.d]
    walk_at "dd"
    refine ⟨d1, ?_⟩
    simp only [textOf, bidText] at h
    by_cases e : s = su
    · rw [if_pos (by omega)]
      rw [if_pos e] at h
      exact ⟨sz d2, S, fun _ _ e => e, h⟩
    · rw [if_neg (by omega)]
      rw [if_neg e] at h
      exact ⟨by decide, ltr s, d3.resolve_left e, sz d2, S, fun _ _ e => e, h⟩
def sp__law_call : DSp := sp_call_text
def d__law_call : DS :=
  (dSeq (dIfS (dT (dOp eqP (dOp ixP (dVar 1) (dC (.int 0))) (dC (.str "bid")))) (dRetW (dOp addP (dCB strP (dCons (dOp ixP (dVar 1) (dC (.int 1))) dNil)) (dOp ixP (dOp ixP (dVal (dLst (dCons (dOp addP (dSl (dC (.str "cdhs")) dNoPart (dPart (dVar 0))) (dC (.str "n"))) dNil))) (dC (.int 0))) (dOp ixP (dVar 1) (dC (.int 2)))))) dNext)
  (dRetW (dOp ixP (dDisp [((dC (.str "pass")), (dC (.str "P"))), ((dC (.str "double")), (dC (.str "X"))), ((dC (.str "redouble")), (dC (.str "XX")))]) (dOp ixP (dVar 1) (dC (.int 0))))))
theorem m__law_call : ∀ ds S P, sp__law_call ds S P → d__law_call (DEnds.fin P) (startD ["suits", "call"] ds) S := by
  rintro ds S P ⟨su, c, rfl, u1, u4, hf, h⟩
  show d__law_call (DEnds.fin P) [some (.int su), some c.d] S
  unfold d__law_call
  have h1 : ("pass" : Str) ≠ "double" := by decide
  have h2 : ("pass" : Str) ≠ "redouble" := by decide
  have h3 : ("double" : Str) ≠ "redouble" := by decide
  have v3 := val3 (x := .str "P") (y := .str "X") (z := .str "XX") h1 h2 h3
  simp only [disp3 h1 h2 h3]
  cases c with
  | pass =>
    simp only [Cl.d]
    walk_at "dd"
    rw [if_neg (by decide)]
    intro q hq
    simp only [ixP_dict put_same, keyD]
    exact ⟨_, _, rfl, v3.1, S, less_put hq, h⟩
  | dbl =>
    simp only [Cl.d]
    walk_at "dd"
    rw [if_neg (by decide)]
    intro q hq
    simp only [ixP_dict put_same, keyD]
    exact ⟨_, _, rfl, v3.2.1, S, less_put hq, h⟩
  | rdbl =>
    simp only [Cl.d]
    walk_at "dd"
    rw [if_neg (by decide)]
    intro q hq
    simp only [ixP_dict put_same, keyD]
    exact ⟨_, _, rfl, v3.2.2, S, less_put hq, h⟩
  | bid l s =>
    obtain ⟨l1, l7, hs⟩ := hf
    have D := dig_all u1 u4 l1 l7 hs
    unfold digOk at D
    simp only [Bool.and_eq_true, Bool.or_eq_true, decide_eq_true_eq] at D
    obtain ⟨⟨⟨⟨⟨⟨⟨⟨⟨⟨⟨⟨⟨d1, d2⟩, d3⟩, d4⟩, d5⟩, d6⟩, d7⟩, d8⟩, d9⟩, d10⟩, d11⟩, d12⟩, d13⟩, d14⟩ := D
    obtain ⟨c, hc, ec⟩ := Option.map_eq_some_iff.mp d4
    simp only [Cl.d]
    repeat (first | walk_at "dd" | simp only [slP])
    have hn : (cutS "cdhs" none (some (su : Int)) ++ ("n" : Str)).length ≤ 100 := by
      show ((cutS "cdhs" none (some (su : Int))).cps ++ ("n" : Str).cps).size ≤ 100
      rw [Array.size_append]
      exact d11
    refine ⟨d1, by decide, sz d11, by decide, sz hn, c, hc, sz d2, S, fun _ _ e => e, ?_⟩
    rw [ec]
    exact h
def sp_read_call : DSp := fun as S P => ∃ (su : Nat) (c : Cl), as = [.int (su : Nat), .str (textOf su c)] ∧ 1 ≤ su ∧ su ≤ 4 ∧ c.fits su ∧ P c.d S
def d_read_call : DS :=
  (dSeq (dIfS (dT (dInTab v_TEXTS (dVar 1))) (dRet (dIxTab v_TEXTS (dVar 1))) dNext)
  (dSeq (dAsg (dIf (dT (dOp eqP (dSl (dVar 1) (dPart (dUn negP (dC (.int 1)))) dNoPart) (dC (.str "n")))) (dVar 0) (dBM isS findP (dSl (dC v_LETTERS) dNoPart (dPart (dVar 0))) (dCons (dSl (dVar 1) (dPart (dUn negP (dC (.int 1)))) dNoPart) dNil))) (dgName 2))
  (dSeq (dAsg (dSl (dVar 1) dNoPart (dPart (dUn negP (dC (.int 1))))) (dgName 3))
  (dSeq (dAsg (dVal (dLc (dAny (dVar 3)) (dgName 6) (dT (dOp notinU (dVar 6) (dC (.str "0123456789")))) (dVar 6) [6])) (dgName 4))
  (dSeq (dIfS (dOr (dNot (dT (dChain leP leP (dC (.int 1)) (dCB lenP (dCons (dVar 3) dNil)) (dC (.int 2))))) (dOr (dT (dOp neP (dVar 4) (dVal (dLst dNil)))) (dOr (dT (dOp eqP (dOp ixP (dVar 3) (dC (.int 0))) (dC (.str "0")))) (dT (dOp lessP (dVar 2) (dC (.int 0))))))) dNever dNext)
  (dSeq (dAsg (dC (.int 0)) (dgName 5))
  (dSeq (dFor (dAny (dVar 3)) (dgName 6) (dAsg (dOp addP (dOp mulP (dC (.int 10)) (dVar 5)) (dBM isS findP (dC (.str "0123456789")) (dCons (dVar 6) dNil))) (dgName 5)))
  (dRet (dTup (dCons (dC (.str "bid")) (dCons (dVar 5) (dCons (dVar 2) dNil))))))))))))
theorem m_read_call : ∀ ds S P, sp_read_call ds S P → d_read_call (DEnds.fin P) (startD ["suits", "text", "strain", "digits", "wrong", "level", "char"] ds) S := by
  rintro ds S P ⟨su, c, rfl, u1, u4, hf, h⟩
  show d_read_call (DEnds.fin P) [some (.int su), some (.str (textOf su c)), none, none, none, none, none] S
  unfold d_read_call
  cases c with
  | pass =>
    refine nxt fun N hN => ?_
    simp only [textOf]
    repeat (first | walk_at "dd" | simp only [dInTab, dIxTab])
    rw [if_pos (by decide)]
    exact ⟨_, by decide, h⟩
  | dbl =>
    refine nxt fun N hN => ?_
    simp only [textOf]
    repeat (first | walk_at "dd" | simp only [dInTab, dIxTab])
    rw [if_pos (by decide)]
    exact ⟨_, by decide, h⟩
  | rdbl =>
    refine nxt fun N hN => ?_
    simp only [textOf]
    repeat (first | walk_at "dd" | simp only [dInTab, dIxTab])
    rw [if_pos (by decide)]
    exact ⟨_, by decide, h⟩
  | bid l s =>
    obtain ⟨l1, l7, hs⟩ := hf
    have D := dig_all u1 u4 l1 l7 hs
    unfold digOk at D
    simp only [Bool.and_eq_true, Bool.or_eq_true, decide_eq_true_eq] at D
    obtain ⟨⟨⟨⟨⟨⟨⟨⟨⟨⟨⟨⟨⟨d1, d2⟩, d3⟩, d4⟩, d5⟩, d6⟩, d7⟩, d8⟩, d9⟩, d10⟩, d11⟩, d12⟩, d13⟩, d14⟩ := D
    simp only [textOf]
    generalize hz : bidText su l s = z at *
    refine nxt fun N hN => ?_
    repeat (first | walk_at "dd" | simp only [dInTab, dIxTab])
    rw [d5, if_neg (by decide)]
    subst hN
    refine nxtE [some (.int su), some (.str z), some (.int (s : Nat)), none, none, none, none] (fun N hn => ?_) ?_
    · repeat (first | walk_at "dd" | simp only [slP, d6])
      refine ⟨sz d10, ?_⟩
      by_cases e : s = su
      · rw [if_pos e, if_pos rfl]
        subst e
        exact hn
      · rw [if_neg e, if_neg (d7.resolve_right e)]
        refine ⟨by decide, ⟨_, rfl⟩, sz d10, _, _, rfl, rfl, ?_⟩
        rw [d8.resolve_left e]
        exact hn
    refine nxt fun N hN => ?_
    repeat (first | walk_at "dd" | simp only [slP, d9])
    refine ⟨sz d10, ?_⟩
    subst hN
    refine nxt fun N hN => ?_
    walk_at "dd"
    simp only [lcD]
    repeat (first | walk_at "dd" | simp only [notinU, inU, inP])
    refine ⟨_, rfl, ?_⟩
    rw [if_neg (fun z => z d12)]
    subst hN
    refine nxt fun N hN => ?_
    have hl1 : (⟨#[48 + l]⟩ : Str).length = 1 := rfl
    have hcs : (⟨#[48 + l]⟩ : Str).cps.toList = [48 + l] := rfl
    repeat (first | walk_at "dd" | simp only [hl1, hcs])
    refine ⟨by decide, ?_⟩
    rw [if_pos (by decide), if_neg (by decide)]
    refine ⟨by decide, by decide +kernel, by decide +kernel, ?_⟩
    rw [if_neg (by simp)]
    refine ⟨by decide, ?_⟩
    rw [if_neg d14, if_neg (by omega)]
    subst hN
    refine nxt fun N hN => ?_
    walk_at "dd"
    subst hN
    refine nxt fun N hN => ?_
    walk_at "dd"
    simp only [forD]
    walk_at "dd"
    refine ⟨.inl (by decide), ⟨_, rfl⟩, _, _, rfl, rfl, ?_⟩
    rw [d13]
    subst hN
    walk_at "dd"
    rw [show (10 : Int) * 0 + (l : Int) = l by omega]
    exact ⟨by decide, h⟩
end DL
set_option autoImplicit false
namespace DL
open PySem L2 PySem.Spec PyProof.Rows
/-! ### the plain law of the auction -/
/-- what follows a bid: t doublings, p passes since -/
inductive Tail : Nat → Nat → List Cl → Prop
  | nil : Tail 0 0 []
  | pass {t p : Nat} {l : List Cl} : Tail t p l → p ≤ 2 → Tail t (p + 1) (l ++ [.pass])
  | dbl {p : Nat} {l : List Cl} : Tail 0 p l → p ≤ 2 → Tail 1 0 (l ++ [.dbl])
  | rdbl {p : Nat} {l : List Cl} : Tail 1 p l → p ≤ 2 → Tail 2 0 (l ++ [.rdbl])
inductive Auc (B : List Cl) : List Cl → Prop
  | op {n : Nat} : n ≤ 4 → Auc B (List.replicate n .pass)
  | mid {pre post : List Cl} {b : Cl} {j t p : Nat} : B[j]? = some b → b.isBid = true → Tail t p post → pre.length ≤ 9 * j + 3 → Auc B (pre ++ b :: post)
theorem Tail.bd {t p : Nat} {l : List Cl} (h : Tail t p l) : t ≤ 2 ∧ p ≤ 3 ∧ l.length ≤ 3 * t + p ∧ p ≤ l.length := by
  induction h with
  | nil => exact ⟨by decide, by decide, by decide, by decide⟩
  | pass h hp ih => rw [List.length_append]; simp only [List.length_cons, List.length_nil]; omega
  | dbl h hp ih => rw [List.length_append]; simp only [List.length_cons, List.length_nil]; omega
  | rdbl h hp ih => rw [List.length_append]; simp only [List.length_cons, List.length_nil]; omega
theorem Tail.noBid {t p : Nat} {l : List Cl} (h : Tail t p l) : ∀ k, plc Cl.isBid k l = [] := by
  induction h with
  | nil => intro k; rfl
  | pass h hp ih => intro k; rw [plc_append, ih]; rfl
  | dbl h hp ih => intro k; rw [plc_append, ih]; rfl
  | rdbl h hp ih => intro k; rw [plc_append, ih]; rfl
theorem Tail.lst {t p : Nat} {l : List Cl} {b : Cl} (hb : b.isBid = true) (h : Tail t p l) : ∀ k, (plc Cl.notPass k (b :: l)).getLast? = some (k + (l.length - p)) ∧ ∃ c0, (b :: l)[l.length - p]? = some c0 ∧ dblOf c0 = t ∧ c0.notPass = true := by
  induction h with
  | nil =>
    intro k
    cases b with
    | bid l s => exact ⟨rfl, _, rfl, rfl, rfl⟩
    | _ => cases hb
  | @pass t p l h hp ih =>
    intro k
    obtain ⟨h1, c0, h2, h3⟩ := ih k
    have hle := h.bd.2.2.2
    rw [← List.cons_append, plc_append]
    have e : (l ++ [Cl.pass]).length - (p + 1) = l.length - p := by rw [List.length_append]; simp only [List.length_cons, List.length_nil]; omega
    rw [e]
    refine ⟨by simpa [plc, Cl.notPass] using h1, c0, ?_, h3⟩
    rw [List.getElem?_append_left (by simp only [List.length_cons]; omega)]
    exact h2
  | @dbl p l h hp ih =>
    intro k
    rw [← List.cons_append, plc_append]
    refine ⟨?_, .dbl, ?_, rfl, rfl⟩
    · simp [plc, Cl.notPass]
    · simp
  | @rdbl p l h hp ih =>
    intro k
    rw [← List.cons_append, plc_append]
    refine ⟨?_, .rdbl, ?_, rfl, rfl⟩
    · simp [plc, Cl.notPass]
    · simp
def isDbl : Cl → Bool
  | .dbl => true
  | _ => false
def isRdbl : Cl → Bool
  | .rdbl => true
  | _ => false
theorem Tail.cnt2 {t p : Nat} {l : List Cl} (h : Tail t p l) : (l.filter isDbl).length = min t 1 ∧ (l.filter isRdbl).length = t - 1 := by
  induction h with
  | nil => exact ⟨rfl, rfl⟩
  | pass h hp ih => simpa [List.filter_append, isDbl, isRdbl] using ih
  | dbl h hp ih => rw [List.filter_append, List.filter_append, List.length_append, List.length_append, ih.1, ih.2]; exact ⟨rfl, rfl⟩
  | rdbl h hp ih => rw [List.filter_append, List.filter_append, List.length_append, List.length_append, ih.1, ih.2]; exact ⟨rfl, rfl⟩
theorem Tail.cnt {t p : Nat} {l : List Cl} (h : Tail t p l) : (l.filter isDbl).length + (l.filter isRdbl).length = t := by
  rw [h.cnt2.1, h.cnt2.2]
  omega
theorem plc_rep : ∀ (p : Cl → Bool) (k n : Nat), p .pass = false → plc p k (List.replicate n .pass) = []
  | p, k, 0, _ => rfl
  | p, k, n + 1, h => by
    rw [List.replicate_succ, plc, if_neg (by rw [h]; decide)]
    exact plc_rep p (k + 1) n h
theorem op_last (n : Nat) : lastN (List.replicate n .pass) = -1 ∧ lastB (List.replicate n .pass) = -1 := by
  unfold lastN lastB
  rw [plc_rep _ _ _ rfl, plc_rep _ _ _ rfl]
  exact ⟨rfl, rfl⟩
theorem op_over {n : Nat} (h : n ≤ 4) : over (List.replicate n .pass) = decide (n = 4) := by
  unfold over
  rw [(op_last n).1, List.length_replicate]
  have a : decide ((4 : Int) ≤ (n : Int) - 1 - -1) = decide (n = 4) := decide_eq_decide.mpr (by omega)
  rw [a, decide_eq_false (show ¬ (0 : Int) ≤ -1 by decide), Bool.and_false, Bool.or_false]
theorem getLast?_app {α : Type} (a b : List α) (h : b.getLast? ≠ none) : (a ++ b).getLast? = b.getLast? := by
  rw [List.getLast?_append]
  cases e : b.getLast? with
  | none => exact absurd e h
  | some v => rfl
theorem mid_last {pre post : List Cl} {b : Cl} {t p : Nat} (hb : b.isBid = true) (h : Tail t p post) : lastN (pre ++ b :: post) = ((pre.length + (post.length - p) : Nat) : Int) ∧ lastB (pre ++ b :: post) = (pre.length : Nat) := by
  unfold lastN lastB lastOf
  rw [plc_append, plc_append, Nat.zero_add]
  obtain ⟨h1, _⟩ := h.lst hb pre.length
  constructor
  · rw [getLast?_app _ _ (by rw [h1]; exact fun e => nomatch e), h1]
  · have e : plc Cl.isBid pre.length (b :: post) = [pre.length] := by
      rw [plc, if_pos hb, h.noBid]
    rw [e, getLast?_app _ _ (by exact fun e => nomatch e)]
    rfl
theorem mid_over {pre post : List Cl} {b : Cl} {t p : Nat} (hb : b.isBid = true) (h : Tail t p post) : over (pre ++ b :: post) = decide (p = 3) := by
  unfold over
  rw [(mid_last hb h).1]
  have hd := h.bd
  rw [List.length_append, List.length_cons]
  have a : decide ((4 : Int) ≤ ((pre.length + (post.length + 1) : Nat) : Int) - 1 - ((pre.length + (post.length - p) : Nat) : Int)) = false := decide_eq_false (by omega)
  have c : decide (((pre.length + (post.length + 1) : Nat) : Int) - 1 - ((pre.length + (post.length - p) : Nat) : Int) = 3) = decide (p = 3) := decide_eq_decide.mpr (by omega)
  rw [a, c, Bool.false_or, decide_eq_true (show (0 : Int) ≤ ((pre.length + (post.length - p) : Nat) : Int) by omega), Bool.and_true]
/-- no bid stands twice -/
def Uniq (B : List Cl) : Prop := ∀ (i k : Nat) (b : Cl), B[i]? = some b → B[k]? = some b → i = k
theorem mid_low {B pre post : List Cl} {b : Cl} {j t p : Nat} (hU : Uniq B) (hj : B[j]? = some b) (hb : b.isBid = true) (h : Tail t p post) : LowIs B (pre ++ b :: post) (j + 1) :=
  .inr ⟨pre.length, j, b, (mid_last hb h).2, by rw [List.getElem?_append_right (Nat.le_refl _), Nat.sub_self]; rfl, hj, fun m hm e => by have := hU m j b e hj; omega, rfl⟩
theorem Auc.low {B cs : List Cl} (hU : Uniq B) (h : Auc B cs) : ∃ low, LowIs B cs low ∧ ((∃ n, cs = List.replicate n .pass ∧ low = 0) ∨ ∃ pre post b j t p, cs = pre ++ b :: post ∧ B[j]? = some b ∧ b.isBid = true ∧ Tail t p post ∧ pre.length ≤ 9 * j + 3 ∧ low = j + 1) := by
  cases h with
  | @op n hn => exact ⟨0, .inl ⟨by rw [(op_last n).2]; decide, rfl⟩, .inl ⟨n, rfl, rfl⟩⟩
  | @mid pre post b j t p hj hb h hl => exact ⟨j + 1, mid_low hU hj hb h, .inr ⟨pre, post, b, j, t, p, rfl, hj, hb, h, hl, rfl⟩⟩
theorem Auc.len {B cs : List Cl} (hB : B.length < 36) (h : Auc B cs) : cs.length < 340 := by
  cases h with
  | op hn => rw [List.length_replicate]; omega
  | mid hj hb h hl =>
    have := h.bd
    have := (List.getElem?_eq_some_iff.mp hj).1
    rw [List.length_append, List.length_cons]; omega
theorem extra_mem {dl : Nat} {cs : List Cl} {c : Cl} (h : c ∈ extra dl cs) : ∃ (n : Nat) (c0 : Cl), lastN cs = (n : Nat) ∧ cs[n]? = some c0 ∧ c ∈ extraC c0 := by
  unfold extra at h
  split at h
  · rename_i q
    split at h
    · rename_i c0 e
      exact ⟨_, c0, (Int.toNat_of_nonneg q.1).symm, e, h⟩
    · cases h
  · cases h
/-- a legal call keeps the shape -/
theorem Auc.step {B cs : List Cl} {dl low : Nat} {c : Cl} (hU : Uniq B) (hbid : ∀ c ∈ B, c.isBid = true) (h : Auc B cs) (ho : over cs = false) (hlow : LowIs B cs low) (hc : c ∈ legalL B dl cs low) : Auc B (cs ++ [c]) := by
  unfold legalL at hc
  rw [ho, if_neg (by decide)] at hc
  cases h with
  | @op n hn =>
    rw [op_over hn] at ho
    have hn4 : n ≠ 4 := of_decide_eq_false ho
    rcases List.mem_append.mp hc with hc | hc
    · rcases List.mem_cons.mp hc with rfl | hc
      · have : List.replicate n Cl.pass ++ [Cl.pass] = List.replicate (n + 1) Cl.pass := by rw [List.replicate_succ']
        rw [this]
        exact .op (by omega)
      · obtain ⟨m, c0, e, _⟩ := extra_mem hc
        rw [(op_last n).1] at e
        omega
    · obtain ⟨j, hj⟩ := List.getElem?_of_mem (List.mem_of_mem_drop hc)
      exact .mid hj (hbid c (List.mem_of_getElem? hj)) .nil (by rw [List.length_replicate]; omega)
  | @mid pre post b j t p hj hb hP hl =>
    rw [mid_over hb hP] at ho
    have hp := hP.bd
    have hp3 : p ≠ 3 := of_decide_eq_false ho
    rw [List.append_assoc, List.cons_append]
    rcases List.mem_append.mp hc with hc | hc
    · rcases List.mem_cons.mp hc with rfl | hc
      · exact .mid hj hb (.pass hP (by omega)) hl
      · obtain ⟨m, c0, e, e2, hx⟩ := extra_mem hc
        rw [(mid_last hb hP).1] at e
        obtain ⟨_, c1, h1, h2, h3⟩ := hP.lst hb 0
        have em : m = pre.length + (post.length - p) := by omega
        rw [em, List.getElem?_append_right (Nat.le_add_right _ _), Nat.add_sub_cancel_left, h1] at e2
        cases e2
        cases c0 with
        | pass => cases h3
        | bid l s =>
          have ht : t = 0 := h2.symm
          subst ht
          rw [List.mem_singleton.mp hx]
          exact .mid hj hb (.dbl hP (by omega)) hl
        | dbl =>
          have ht : t = 1 := h2.symm
          subst ht
          rw [List.mem_singleton.mp hx]
          exact .mid hj hb (.rdbl hP (by omega)) hl
        | rdbl => cases hx
    · obtain ⟨i, hi⟩ := List.getElem?_of_mem hc
      rw [List.getElem?_drop] at hi
      have hlow' : low = j + 1 := by
        rcases hlow with ⟨e, _⟩ | ⟨n, j', c', e, h1, h2, _, h4⟩
        · rw [(mid_last hb hP).2] at e; omega
        · rw [(mid_last hb hP).2] at e
          have en : n = pre.length := by omega
          rw [en, List.getElem?_append_right (Nat.le_refl _), Nat.sub_self] at h1
          cases h1
          rw [h4, hU j' j b h2 hj]
      have : pre ++ b :: (post ++ [c]) = (pre ++ b :: post) ++ c :: [] := by simp
      rw [this]
      exact .mid hi (hbid c (List.mem_of_getElem? hi)) .nil (by rw [List.length_append, List.length_cons]; omega)
theorem legal_ne {B cs : List Cl} {dl low : Nat} (ho : over cs = false) : 0 < (legalL B dl cs low).length := by
  unfold legalL
  rw [ho, if_neg (by decide)]
  simp
theorem legal_fits {B cs : List Cl} {dl low su : Nat} {c : Cl} (hf : ∀ c ∈ B, c.fits su) (hc : c ∈ legalL B dl cs low) : c.fits su := by
  unfold legalL at hc
  split at hc
  · cases hc
  · rcases List.mem_append.mp hc with hc | hc
    · rcases List.mem_cons.mp hc with rfl | hc
      · exact True.intro
      · obtain ⟨m, c0, _, _, hx⟩ := extra_mem hc
        cases c0 <;> simp [extraC] at hx <;> subst hx <;> exact True.intro
    · exact hf c (List.mem_of_mem_drop hc)
theorem legal_len {B cs : List Cl} {dl low : Nat} (hB : B.length < 36) : (legalL B dl cs low).length < 40 := by
  unfold legalL
  split
  · decide
  · have hx : (extra dl cs).length ≤ 1 := by
      unfold extra
      split
      · split
        · rename_i c _
          cases c <;> simp [extraC]
        · simp
      · simp
    simp only [List.length_append, List.length_cons, List.length_drop]
    omega
theorem bids_B {su top : Nat} (h1 : su ≤ 4) (h2 : top ≤ 7) : Uniq (bidsL su top) ∧ (bidsL su top).length < 36 ∧ (∀ c ∈ bidsL su top, c.isBid = true) ∧ ∀ c ∈ bidsL su top, ∃ l s, c = .bid l s ∧ 1 ≤ l ∧ l ≤ top ∧ s ≤ su := by
  obtain ⟨f1, f2, f3⟩ := bids_facts su (by omega) top (by omega)
  refine ⟨fun i k b hi hk => ?_, by unfold bidsL; rw [List.length_map]; exact f2, fun c hc => ?_, fun c hc => ?_⟩
  · unfold bidsL at hi hk
    rw [List.getElem?_map] at hi hk
    obtain ⟨x, hx, rfl⟩ := Option.map_eq_some_iff.mp hi
    obtain ⟨y, hy, e⟩ := Option.map_eq_some_iff.mp hk
    have exy : y = x := by
      injection e with e1 e2
      exact Prod.ext e1 e2
    subst exy
    have hi' := (List.getElem?_eq_some_iff.mp hx).1
    exact (List.getElem?_inj hi' f1).mp (by rw [hx, hy])
  · obtain ⟨x, _, rfl⟩ := List.mem_map.mp hc
    rfl
  · obtain ⟨x, hx, rfl⟩ := List.mem_map.mp hc
    obtain ⟨a, b, c⟩ := f3 x hx
    exact ⟨x.1, x.2, rfl, a, b, c⟩
/-! places -/
theorem plc_sorted (p : Cl → Bool) : ∀ (k : Nat) (cs : List Cl), (plc p k cs).Pairwise (· < ·) ∧ ∀ n ∈ plc p k cs, k ≤ n
  | k, [] => ⟨.nil, fun _ h => nomatch h⟩
  | k, c :: r => by
    obtain ⟨h1, h2⟩ := plc_sorted p (k + 1) r
    unfold plc
    split
    · refine ⟨List.pairwise_cons.mpr ⟨fun n hn => by have := h2 n hn; omega, h1⟩, fun n hn => ?_⟩
      rcases List.mem_cons.mp hn with rfl | hn
      · exact Nat.le_refl _
      · have := h2 n hn; omega
    · exact ⟨h1, fun n hn => by have := h2 n hn; omega⟩
theorem plc_of {p : Cl → Bool} : ∀ {k i : Nat} {cs : List Cl} {c : Cl}, cs[i]? = some c → p c = true → k + i ∈ plc p k cs
  | k, 0, c :: r, _, rfl, hp => by rw [plc, if_pos hp]; exact List.mem_cons_self
  | k, i + 1, c' :: r, c, h, hp => by
    have := plc_of (k := k + 1) (i := i) (cs := r) h hp
    rw [show k + 1 + i = k + (i + 1) by omega] at this
    unfold plc
    split
    · exact List.mem_cons_of_mem _ this
    · exact this
theorem head_le {ns : List Nat} {k : Nat} {r : List Nat} (h : ns.Pairwise (· < ·)) (e : ns = k :: r) : ∀ n ∈ ns, k ≤ n := by
  subst e
  intro n hn
  rcases List.mem_cons.mp hn with rfl | hn
  · exact Nat.le_refl _
  · exact Nat.le_of_lt ((List.pairwise_cons.mp h).1 n hn)
end DL
set_option autoImplicit false
namespace DL
open PySem L2 PySem.Spec PyProof.Rows
local macro_rules | `(tactic| walk_at "dd") => `(tactic| simp only [dRet, dRetW, dRetF, dOp, dVar, dC, dIf, dT, dUn, dChain, dAndV, dOrV, dNotV, dAnd, dOr, dNot, dNil, dCons, dTup, dLst, dVal, dCell, dCB, dCall, dMeth, dMake, dSeq, dAsg, dAug, dIfS, dNext, dDrop, dgName, dgNil, dgCons, dgTup, DEnds.fin, dFld, dFldS, dFor, dLc, dAny, dRng1, dRng2, dEnum, dNever, dSl, dPart, dNoPart, dBM, dDisp, dPairs,
  modP, addP, subP, mulP, fdivP, lessP, leP, gtP, geP, eqP, neP, isNP, iaddP, negP, ixP_tup, ixP_lst, ixP_frz, ixP_str, atI_a0, atI_a1, atI_a2, atI_a3, atI_a4, atI_a5, seqOf_tup, seqOf_lst, seqOf_frz, lstOf_lst, lstOf_tup, walkOf_tup, walkOf_lst, walkOf_str, datOf_tup, datOf_lst, Cell.lst.injEq, D.lst.injEq, String.reduceEq, D.isNon, lenP, intP, List.getElem?_cons_zero, List.getElem?_cons_succ, Option.some.injEq, Prod.mk.injEq, exists_eq_left', exists_eq_left, D.int.injEq, D.bl.injEq, D.str.injEq, D.tup.injEq, D.ref.injEq, Cell.ins.injEq, List.cons.injEq, and_true, true_and, and_self, List.set_cons_zero, List.set_cons_succ, reduceCtorEq, List.map_cons, List.map_nil, List.nil_append, List.cons_append, startD, List.length_cons, List.length_nil, List.replicate, wipeD, put_same, rgD_len0, List.map_cons, List.append_nil, tyD, isiP, decide_true, decide_false, Bool.true_and, Bool.false_and, Bool.and_true, Bool.and_false, Bool.or_true, Bool.or_false, Bool.true_or, Bool.false_or, Bool.not_true, Bool.not_false, powP, minU, maxU, min2P, max2P, dgSub, dCat, dListOf, strP, decide_eq_true_eq, and_assoc, exists_and_left, exists_eq, Bool.not_eq_true', decide_eq_false_iff_not, exists_false, false_and, ↓reduceIte, Bool.false_eq_true, if_true, if_false, Int.reduceLT, Int.reduceNeg, Nat.reduceAdd])
def d_lawE : DS :=
  (dSeq (dAsg (dVal (dLc (dRng1 (dCons (dOp addP (dC (.int 1)) (dCall sp__law_draw (dCons (dVar 1) (dCons (dC (.int 6)) dNil)))) dNil)) (dgName 6) dYes (dOp ixP (dVar 19) (dCall sp__law_draw (dCons (dVar 1) (dCons (dOp addP (dVar 3) (dC (.int 1))) dNil)))) [6])) (dgName 25))
  (dSeq (dAsg (dCall sp_compared (dCons (dVar 25) dNil)) (dgName 26))
  (dSeq (dIfS (dOr (dT (dOp neP (dCB sumP (dCons (dVar 26) dNil)) (dOp mulP (dCB lenP (dCons (dVar 25) dNil)) (dOp subP (dCB lenP (dCons (dVar 25) dNil)) (dC (.int 1)))))) (dNot (dT (dCall (sp__law_equal 29) (dCons (dCall sp_compared (dCons (dVal (dLc (dAny (dVar 25)) (dgName 29) dYes (dUn negP (dVar 29)) [29])) dNil)) (dCons (dVal (dLc (dAny (dVar 26)) (dgName 29) dYes (dOp subP (dOp mulP (dC (.int 2)) (dOp subP (dCB lenP (dCons (dVar 25) dNil)) (dC (.int 1)))) (dVar 29)) [29])) dNil)))))) (dRetW (dC (.bl false))) dNext)
  (dRetW (dOp eqP (dOp ixP (dVal (dSorted (dCons (dVar 25) dNil))) (dUn negP (dC (.int 1)))) (dOp ixP (dVar 25) (dBM isL indexP (dVar 26) (dCons (dCB maxU (dCons (dVar 26) dNil)) dNil))))))))
def d_lawD : DS :=
  (dSeq (dFor (dAny (dVal (dLst (dCons (dVal (dLst (dCons (dC (.bl false)) (dCons (dC (.bl false)) dNil)))) (dCons (dVal (dLst (dCons (dC (.bl true)) (dCons (dC (.bl true)) dNil)))) (dCons (dVal (dLst (dCons (dC (.bl true)) (dCons (dC (.bl false)) dNil)))) dNil)))))) (dgName 18) (dSeq (dAsg (dVal (dLc (dRng1 (dCons (dOp addP (dVar 3) (dC (.int 1))) dNil)) (dgName 21) dYes (dCall sp_score (dCons (dVar 2) (dCons (dVar 3) (dCons (dVar 17) (dCons (dVar 21) (dCons (dVar 18) dNil)))))) [21])) (dgName 19))
  (dSeq (dAsg (dCall sp_needed (dCons (dVar 3) (dCons (dOp ixP (dVar 17) (dC (.int 0))) dNil))) (dgName 20))
  (dSeq (dIfS (dOr (dT (dOp neP (dVar 20) (dOp addP (dOp fdivP (dVar 3) (dC (.int 2))) (dOp ixP (dVar 17) (dC (.int 0)))))) (dT (dOp gtP (dCB lenP (dCons (dVal (dLc (dRng2 (dCons (dC (.int 1)) (dCons (dOp addP (dVar 3) (dC (.int 1))) dNil))) (dgName 6) (dT (dOp leP (dOp ixP (dVar 19) (dVar 6)) (dOp ixP (dVar 19) (dOp subP (dVar 6) (dC (.int 1)))))) (dVar 6) [6])) dNil)) (dC (.int 0))))) (dRetW (dC (.bl false))) dNext)
  (dSeq (dFor (dRng1 (dCons (dOp addP (dVar 3) (dC (.int 1))) dNil)) (dgName 21) (dSeq (dIfS (dT (dOp neP (dOp gtP (dOp ixP (dVar 19) (dVar 21)) (dC (.int 0))) (dOp geP (dVar 21) (dVar 20)))) (dRetW (dC (.bl false))) dNext)
  (dSeq (dAsg (dCall sp_score_for (dCons (dVar 2) (dCons (dVar 3) (dCons (dVar 17) (dCons (dVar 21) (dCons (dVar 18) (dCons (dOp modP (dCB intP (dCons (dVar 16) dNil)) (dC (.int 2))) dNil))))))) (dgName 22))
  (dIfS (dOr (dT (dOp neP (dVar 22) (dOp ixP (dVar 19) (dVar 21)))) (dT (dOp neP (dCall sp_score_for (dCons (dVar 2) (dCons (dVar 3) (dCons (dVar 17) (dCons (dVar 21) (dCons (dVar 18) (dCons (dOp subP (dC (.int 1)) (dOp modP (dCB intP (dCons (dVar 16) dNil)) (dC (.int 2)))) dNil))))))) (dUn negP (dOp ixP (dVar 19) (dVar 21)))))) (dRetW (dC (.bl false))) dNext))))
  (dSeq (dAsg (dOp addP (dSl (dVar 17) dNoPart (dPart (dC (.int 2)))) (dTup (dCons (dC (.int 1)) (dCons (dVar 16) dNil)))) (dgName 23))
  (dSeq (dAsg (dOp addP (dSl (dVar 17) dNoPart (dPart (dC (.int 2)))) (dTup (dCons (dC (.int 2)) (dCons (dVar 16) dNil)))) (dgName 24))
  (dFor (dRng1 (dCons (dVar 20) dNil)) (dgName 21) (dIfS (dT (dOp neP (dCall sp_score (dCons (dVar 2) (dCons (dVar 3) (dCons (dVar 24) (dCons (dVar 21) (dCons (dVar 18) dNil)))))) (dOp mulP (dC (.int 2)) (dCall sp_score (dCons (dVar 2) (dCons (dVar 3) (dCons (dVar 23) (dCons (dVar 21) (dCons (dVar 18) dNil))))))))) (dRetW (dC (.bl false))) dNext)))))))))
  d_lawE)
def d_lawC : DS :=
  (dSeq (dAsg (dVal (dLc (dRng1 (dCons (dCB lenP (dCons (dVar 9) dNil)) dNil)) (dgName 6) (dT (dOp eqP (dOp ixP (dOp ixP (dVar 9) (dVar 6)) (dC (.int 0))) (dC (.str "bid")))) (dVar 6) [6])) (dgName 11))
  (dSeq (dIfS (dT (dOp eqP (dCB lenP (dCons (dVar 11) dNil)) (dC (.int 0)))) (dRetW (dAndV (dOp isNP (dMeth ["Auction"] "contract" sp_Auction_contract (dVar 5) dNil) (dC .non)) (dAndV (dOp eqP (dCB lenP (dCons (dVar 9) dNil)) (dC (.int 4))) (dOp eqP (dCall sp_score (dCons (dVar 2) (dCons (dVar 3) (dCons (dC .non) (dCons (dC (.int 0)) (dCons (dVal (dLst (dCons (dC (.bl true)) (dCons (dC (.bl false)) dNil)))) dNil)))))) (dC (.int 0)))))) dNext)
  (dSeq (dAsg (dOp ixP (dVar 11) (dUn negP (dC (.int 1)))) (dgName 12))
  (dSeq (dAsg (dOp addP (dCB lenP (dCons (dVal (dLc (dAny (dSl (dVar 9) (dPart (dVar 12)) dNoPart)) (dgName 27) (dT (dOp eqP (dOp ixP (dVar 27) (dC (.int 0))) (dC (.str "double")))) (dVar 27) [27])) dNil)) (dCB lenP (dCons (dVal (dLc (dAny (dSl (dVar 9) (dPart (dVar 12)) dNoPart)) (dgName 27) (dT (dOp eqP (dOp ixP (dVar 27) (dC (.int 0))) (dC (.str "redouble")))) (dVar 27) [27])) dNil))) (dgName 13))
  (dSeq (dAsg (dOp ixP (dOp ixP (dVar 9) (dVar 12)) (dC (.int 2))) (dgName 14))
  (dSeq (dAsg (dOp ixP (dVal (dLc (dAny (dVar 11)) (dgName 6) (dAnd (dT (dOp eqP (dOp ixP (dOp ixP (dVar 9) (dVar 6)) (dC (.int 2))) (dVar 14))) (dT (dOp eqP (dOp modP (dCB intP (dCons (dVar 6) dNil)) (dC (.int 2))) (dOp modP (dCB intP (dCons (dVar 12) dNil)) (dC (.int 2)))))) (dVar 6) [6])) (dC (.int 0))) (dgName 15))
  (dSeq (dAsg (dOp modP (dCB intP (dCons (dOp addP (dVar 4) (dVar 15)) dNil)) (dC (.int 4))) (dgName 16))
  (dSeq (dAsg (dTup (dCons (dOp ixP (dOp ixP (dVar 9) (dVar 12)) (dC (.int 1))) (dCons (dVar 14) (dCons (dVar 13) (dCons (dVar 16) dNil))))) (dgName 17))
  (dSeq (dIfS (dNot (dT (dCall (sp__law_equal 29) (dCons (dMeth ["Auction"] "contract" sp_Auction_contract (dVar 5) dNil) (dCons (dVar 17) dNil))))) (dRetW (dC (.bl false))) dNext)
  d_lawD)))))))))
def d_lawB : DS :=
  (dSeq (dAsg (dMeth ["Auction"] "calls" sp_Auction_calls (dVar 5) dNil) (dgName 9))
  (dSeq (dAsg (dVal (dLc (dAny (dVar 9)) (dgName 27) dYes (dCall sp_call_text (dCons (dVar 2) (dCons (dVar 27) dNil))) [27])) (dgName 10))
  (dSeq (dIfS (dOr (dNot (dT (dCall (sp__law_equal 29) (dCons (dVar 10) (dCons (dVal (dLc (dAny (dVar 9)) (dgName 27) dYes (dCall sp__law_call (dCons (dVar 2) (dCons (dVar 27) dNil))) [27])) dNil))))) (dNot (dT (dCall (sp__law_equal 29) (dCons (dVal (dLc (dAny (dVar 10)) (dgName 28) dYes (dCall sp_read_call (dCons (dVar 2) (dCons (dVar 28) dNil))) [28])) (dCons (dVar 9) dNil)))))) (dRetW (dC (.bl false))) dNext)
  d_lawC)))
def d_lawA : DS :=
  (dSeq (dAsg (dCall sp__law_pool (dCons (dVar 0) dNil)) (dgName 1))
  (dSeq (dAsg (dOp addP (dC (.int 1)) (dCall sp__law_draw (dCons (dVar 1) (dCons (dC (.int 4)) dNil)))) (dgName 2))
  (dSeq (dAsg (dOp addP (dC (.int 1)) (dCall sp__law_draw (dCons (dVar 1) (dCons (dC (.int 13)) dNil)))) (dgName 3))
  (dSeq (dAsg (dCall sp__law_draw (dCons (dVar 1) (dCons (dC (.int 4)) dNil))) (dgName 4))
  (dSeq (dAsg (dMake "Auction" sp_Auction___init__ (dCons (dVar 2) (dCons (dVar 3) (dCons (dVar 4) dNil)))) (dgName 5))
  (dSeq (dFor (dRng1 (dCons (dC (.int 400)) dNil)) (dgName 6) (dIfS (dNot (dT (dMeth ["Auction"] "is_over" sp_Auction_is_over (dVar 5) dNil))) (dSeq (dAsg (dMeth ["Auction"] "legal" sp_Auction_legal (dVar 5) dNil) (dgName 7))
  (dSeq (dAsg (dC (.int 0)) (dgName 8))
  (dSeq (dIfS (dT (dOp gtP (dCall sp__law_draw (dCons (dVar 1) (dCons (dC (.int 3)) dNil))) (dC (.int 0)))) (dAsg (dCB minU (dCons (dCall sp__law_draw (dCons (dVar 1) (dCons (dCB lenP (dCons (dVar 7) dNil)) dNil))) (dCons (dCall sp__law_draw (dCons (dVar 1) (dCons (dC (.int 6)) dNil))) dNil))) (dgName 8)) dNext)
  (dDrop (dMeth ["Auction"] "call" sp_Auction_call (dVar 5) (dCons (dOp ixP (dVar 7) (dCB minU (dCons (dVar 8) (dCons (dOp subP (dCB lenP (dCons (dVar 7) dNil)) (dC (.int 1))) dNil)))) dNil)))))) dNext))
  d_lawB))))))
theorem lcD_inv {dg : DG} {de : DE} {ρ0 : Rho} {st : Sg → Prop} {P : List D → Sg → Prop} {T : Nat} (J : List D → Sg → Prop) : ∀ (ds acc : List D) (S : Sg), acc.length + ds.length = T → T ≤ sizeLine → J acc S →
    (∀ x ∈ ds, ∀ (acc : List D) (S : Sg) (Ky : D → Sg → Prop), acc.length < T → J acc S → (∀ y S', J (acc ++ [y]) S' → Ky y S') → st S ∧ dg x ρ0 S fun ρ1 S1 => de ρ1 S1 Ky) →
    (∀ acc' S', J acc' S' → acc'.length = T → st S' ∧ P acc' S') → lcD dg dYes de ρ0 st P ds acc S
  | [], acc, S, hT, _, hJ, _, hd => hd acc S hJ hT
  | x :: xs, acc, S, hT, hl, hJ, hx, hd => by
    rw [List.length_cons] at hT
    have h := hx x List.mem_cons_self acc S (fun y S3 => acc.length < sizeLine ∧ lcD dg dYes de ρ0 st P xs (acc ++ [y]) S3) (by omega) hJ fun y S' hy => ⟨by omega, lcD_inv J xs _ S' (by simp only [List.length_append, List.length_cons, List.length_nil]; omega) hl hy (fun z hz => hx z (List.mem_cons_of_mem _ hz)) hd⟩
    refine ⟨h.1, ?_⟩
    show dg x ρ0 S fun ρ1 S1 => if true = true then de ρ1 S1 (fun y S3 => acc.length < sizeLine ∧ lcD dg dYes de ρ0 st P xs (acc ++ [y]) S3) else lcD dg dYes de ρ0 st P xs acc S1
    simp only [if_true]
    exact h.2
theorem pure_ints (ns : List Int) (h : ns.length < 10000000) : (D.lst (ns.map .int)).pure = true ∧ (D.lst (ns.map .int)).dep < 29 := by
  have h1 : D.pureL (ns.map .int) = true := by
    rw [D.pureL_all, List.all_eq_true]
    intro x hx
    obtain ⟨c, _, rfl⟩ := List.mem_map.mp hx
    rfl
  have h2 : D.depL (ns.map .int) = 0 := by
    clear h h1
    induction ns with
    | nil => simp [D.depL]
    | cons n ns ih => simp [D.depL, D.dep, ih]
  refine ⟨?_, ?_⟩
  · rw [D.pure, h1, Bool.and_true, List.length_map]
    exact decide_eq_true h
  · rw [D.dep, h2]
    decide
theorem ok_ints (ns : List Int) : (D.lst (ns.map .int)).ok = true := by
  have h1 : D.plainL (ns.map .int) = true := by
    rw [D.plainL_all, List.all_eq_true]
    intro x hx
    obtain ⟨c, _, rfl⟩ := List.mem_map.mp hx
    simp [D.plain]
  have h2 : D.depL (ns.map .int) = 0 := by
    clear h1
    induction ns with
    | nil => simp [D.depL]
    | cons n ns ih => simp [D.depL, D.dep, ih]
  unfold D.ok
  rw [D.plain, h1, D.dep, h2]
  decide
theorem ok_int (i : Int) : (D.int i).ok = true := by
  unfold D.ok
  simp [D.plain, D.dep]
theorem first_ix {m : Int} : ∀ {xs : List Int}, m ∈ xs → ∃ j : Nat, xs[j]? = some m ∧ ∀ i : Nat, i < j → xs[i]? ≠ some m
  | x :: xs, h => by
    by_cases e : x = m
    · exact ⟨0, by rw [e]; rfl, fun i hi => absurd hi (Nat.not_lt_zero _)⟩
    · have h' : m ∈ xs := (List.mem_cons.mp h).resolve_left (fun z => e z.symm)
      obtain ⟨j, h1, h2⟩ := first_ix h'
      refine ⟨j + 1, h1, fun i hi => ?_⟩
      cases i with
      | zero => exact fun z => e (Option.some.inj z)
      | succ i => exact h2 i (by omega)
theorem tailE {S : Sg} {P : D → Sg → Prop} {r q : Addr} {rows : List Int} {n si : Nat} {sc : List Int} {x0 x2 x4 x5 x6 x7 x8 x9 x10 x11 x12 x13 x14 x15 x16 x17 x18 x20 x21 x22 x23 x24 x25 x26 x27 x28 x29 : Option D}
    (W : PoolAt S r q rows n) (hn : n < 100000000) (hsi : si ≤ 13) (hsc : sc.length = si + 1) (hP : ∀ S, P (.bl true) S) :
    d_lawE (DEnds.fin P) [x0, some (.ref r), x2, some (.int (si : Nat)), x4, x5, x6, x7, x8, x9, x10, x11, x12, x13, x14, x15, x16, x17, x18, some (.lst (sc.map .int)), x20, x21, x22, x23, x24, x25, x26, x27, x28, x29] S := by
  unfold d_lawE
  refine nxtI (fun ρ S' => ∃ ks : List Int, ρ = [x0, some (.ref r), x2, some (.int (si : Nat)), x4, x5, x6, x7, x8, x9, x10, x11, x12, x13, x14, x15, x16, x17, x18, some (.lst (sc.map .int)), x20, x21, x22, x23, x24, some (.lst (ks.map .int)), x26, x27, x28, x29] ∧ 1 ≤ ks.length ∧ ks.length ≤ 6) (fun N hN => ?_) ?_
  · walk_at "dd"
    refine ⟨r, q, rows, n, 6, rfl, W, by decide, by omega, fun v v0 v6 => ?_⟩
    obtain ⟨m, rfl⟩ : ∃ m : Nat, v = (m : Nat) := ⟨v.toNat, (Int.toNat_of_nonneg v0).symm⟩
    simp only [List.cons.injEq, and_true, D.int.injEq, exists_eq_left']
    refine ⟨by omega, by omega, ?_⟩
    refine lcD_inv (T := 1 + m) (fun acc S' => ∃ ks : List Int, acc = ks.map .int ∧ PoolAt S' r q rows (n + 1 + acc.length)) _ [] _ (by rw [rgD_len, List.length_nil]; omega) (Nat.le_of_lt (small_size (by omega))) ⟨[], rfl, W.draw⟩ ?_ ?_
    · rintro x hx acc S' Ky hlt ⟨ks, rfl, W'⟩ hK
      refine ⟨trivial, ?_⟩
      obtain ⟨i, rfl, hi⟩ := mem_rgD hx
      walk_at "dd"
      refine ⟨r, q, rows, _, _, rfl, W', by omega, by omega, fun v v0 v6 => ?_⟩
      obtain ⟨m2, rfl⟩ : ∃ m2 : Nat, v = (m2 : Nat) := ⟨v.toNat, (Int.toNat_of_nonneg v0).symm⟩
      have hm2 : m2 < sc.length := by omega
      walk_at "dd"
      refine ⟨.int sc[m2], atI_natD (by rw [List.getElem?_map, List.getElem?_eq_getElem hm2]; rfl), hK _ _ ⟨ks ++ [sc[m2]], by simp, ?_⟩⟩
      rw [List.length_append]
      exact W'.draw
    · rintro acc S' ⟨ks, rfl, W'⟩ hlen
      rw [List.length_map] at hlen
      exact ⟨trivial, hN _ _ ⟨ks, rfl, by omega, by omega⟩⟩
  rintro ρ S1 ⟨ks, rfl, k1, k6⟩
  have hlt : ks.length < 1000 := by omega
  have hcl : (cmpL ks).length = ks.length := by unfold cmpL; rw [List.length_map]
  refine nxt fun N hN => ?_
  walk_at "dd"
  refine ⟨ks, rfl, hlt, ?_⟩
  subst hN
  refine nxt fun N hN => ?_
  repeat (first | walk_at "dd" | simp only [sumP])
  refine ⟨cmpL ks, rfl, ?_⟩
  rw [List.length_map, cmp_sum]
  refine ⟨.inl (by omega), ?_⟩
  rw [if_neg (fun z => z rfl)]
  refine lcD_map (fun d => .int (-(dInt d))) trivial _ ?_ (by rw [List.length_map]; exact Nat.le_of_lt (small_size (by omega))) ?_
  · rintro x hx Ky hKy
    obtain ⟨v, _, rfl⟩ := List.mem_map.mp hx
    walk_at "dd"
    exact hKy
  have e1 : (ks.map D.int).map (fun d => D.int (-(dInt d))) = (ks.map fun x => -x).map D.int := by rw [List.map_map, List.map_map]; rfl
  rw [e1]
  refine ⟨_, rfl, by rw [List.length_map]; exact hlt, ?_⟩
  refine lcD_map (fun d => .int (2 * ((ks.length : Int) - 1) - dInt d)) trivial _ ?_ (by rw [List.length_map, hcl]; exact Nat.le_of_lt (small_size (by omega))) ?_
  · rintro x hx Ky hKy
    obtain ⟨v, _, rfl⟩ := List.mem_map.mp hx
    walk_at "dd"
    rw [List.length_map]
    exact ⟨.inl (by decide), hKy⟩
  have e2 : ((cmpL ks).map D.int).map (fun d => D.int (2 * ((ks.length : Int) - 1) - dInt d)) = ((cmpL ks).map fun f : Int => 2 * ((ks.length : Int) - 1) - f).map D.int := by rw [List.map_map, List.map_map]; rfl
  rw [e2, ← cmp_neg]
  have pl : (cmpL (ks.map fun x => -x)).length < 10000000 := by unfold cmpL; rw [List.length_map, List.length_map]; omega
  refine ⟨_, _, rfl, (pure_ints _ pl).1, (pure_ints _ pl).1, (pure_ints _ pl).2, _, rfl, ?_⟩
  rw [decide_eq_true rfl]
  subst hN
  walk_at "dd"
  simp only [dSorted]
  walk_at "dd"
  refine ⟨ks, rfl, fun ns' hp hs => ?_⟩
  have hne : ns' ≠ [] := fun e => by
    have := hp.length_eq
    rw [e, List.length_nil] at this
    omega
  have hlast := List.getLast?_eq_some_getLast hne
  refine ⟨.int (ns'.getLast hne), atI_last (by rw [List.getLast?_map, hlast]; rfl), isL_lst, cmpL ks, rfl, by omega, fun m hm hmax => ?_⟩
  obtain ⟨j, h1, h2⟩ := first_ix hm
  obtain ⟨v, hv, hvm⟩ := cmp_top h1 hmax
  have hl := sorted_last hp hs (List.mem_of_getElem? hv) hvm
  rw [hlast] at hl
  have hev := Option.some.inj hl
  refine ⟨(cmpL ks).map .int, .int m, j, rfl, rfl, ok_ints _, ok_int _, by rw [List.getElem?_map, h1]; rfl, fun i hi e => ?_, ?_⟩
  · rw [List.getElem?_map] at e
    obtain ⟨z, hz, ez⟩ := Option.map_eq_some_iff.mp e
    cases ez
    exact h2 i hi hz
  · walk_at "dd"
    refine ⟨.int v, atI_natD (by rw [List.getElem?_map, hv]; rfl), S1, fun _ _ e => e, ?_⟩
    rw [hev, decide_eq_true rfl]
    exact hP _
end DL
set_option autoImplicit false
namespace DL
open PySem L2 PySem.Spec PyProof.Rows
local macro_rules | `(tactic| walk_at "dd") => `(tactic| simp only [dRet, dRetW, dRetF, dOp, dVar, dC, dIf, dT, dUn, dChain, dAndV, dOrV, dNotV, dAnd, dOr, dNot, dNil, dCons, dTup, dLst, dVal, dCell, dCB, dCall, dMeth, dMake, dSeq, dAsg, dAug, dIfS, dNext, dDrop, dgName, dgNil, dgCons, dgTup, DEnds.fin, dFld, dFldS, dFor, dLc, dAny, dRng1, dRng2, dEnum, dNever, dSl, dPart, dNoPart, dBM, dDisp, dPairs,
  modP, addP, subP, mulP, fdivP, lessP, leP, gtP, geP, eqP, neP, isNP, iaddP, negP, ixP_tup, ixP_lst, ixP_frz, ixP_str, atI_a0, atI_a1, atI_a2, atI_a3, atI_a4, atI_a5, seqOf_tup, seqOf_lst, seqOf_frz, lstOf_lst, lstOf_tup, walkOf_tup, walkOf_lst, walkOf_str, datOf_tup, datOf_lst, Cell.lst.injEq, D.lst.injEq, String.reduceEq, D.isNon, lenP, intP, List.getElem?_cons_zero, List.getElem?_cons_succ, Option.some.injEq, Prod.mk.injEq, exists_eq_left', exists_eq_left, D.int.injEq, D.bl.injEq, D.str.injEq, D.tup.injEq, D.ref.injEq, Cell.ins.injEq, List.cons.injEq, and_true, true_and, and_self, List.set_cons_zero, List.set_cons_succ, reduceCtorEq, List.map_cons, List.map_nil, List.nil_append, List.cons_append, startD, List.length_cons, List.length_nil, List.replicate, wipeD, put_same, rgD_len0, List.map_cons, List.append_nil, tyD, isiP, decide_true, decide_false, Bool.true_and, Bool.false_and, Bool.and_true, Bool.and_false, Bool.or_true, Bool.or_false, Bool.true_or, Bool.false_or, Bool.not_true, Bool.not_false, powP, minU, maxU, min2P, max2P, dgSub, dCat, dListOf, strP, decide_eq_true_eq, and_assoc, exists_and_left, exists_eq, Bool.not_eq_true', decide_eq_false_iff_not, exists_false, false_and, ↓reduceIte, Bool.false_eq_true, if_true, if_false, Int.reduceLT, Int.reduceNeg, Nat.reduceAdd])
def rowsI (su si l s : Int) (d : Nat) (v : Bool) (m : Nat) : List Int := (List.range (m + 1)).map fun t => scoreI su si l s d v (t : Nat)
theorem rowsI_get {su si l s : Int} {d m t : Nat} {v : Bool} (h : t ≤ m) : ((rowsI su si l s d v m).map D.int)[t]? = some (.int (scoreI su si l s d v (t : Nat))) := by
  unfold rowsI
  rw [List.getElem?_map, List.getElem?_map, List.getElem?_range (by omega)]
  rfl
theorem cutD_to {α : Type} {xs : List α} {n : Nat} (h : n ≤ xs.length) : cutD xs none (some (n : Int)) = xs.take n := by
  unfold cutD
  rw [HT.sIx_none, HT.sIx_nat, Nat.min_eq_left h]
  rfl
theorem tailD {S : Sg} {P : D → Sg → Prop} {r q : Addr} {rows : List Int} {n su si l s c d : Nat} {x0 x4 x5 x6 x7 x8 x9 x10 x11 x12 x13 x14 x15 x18 x19 x20 x21 x22 x23 x24 x25 x26 x27 x28 x29 : Option D}
    (W : PoolAt S r q rows n) (hn : n < 100000000) (s1 : 1 ≤ si) (hsi : si ≤ 13) (hl : 1 ≤ l) (hl2 : l ≤ si - si / 2) (hd : d ≤ 2) (hc : c < 4) (hP : ∀ S, P (.bl true) S) :
    d_lawD (DEnds.fin P) [x0, some (.ref r), some (.int (su : Nat)), some (.int (si : Nat)), x4, x5, x6, x7, x8, x9, x10, x11, x12, x13, x14, x15, some (.int (c : Nat)), some (conD (l : Nat) (s : Nat) d (c : Nat)), x18, x19, x20, x21, x22, x23, x24, x25, x26, x27, x28, x29] S := by
  unfold d_lawD
  refine nxtI (fun ρ S' => S' = S ∧ ∃ (sc : List Int) (y18 y20 y21 y22 y23 y24 y6 : Option D), sc.length = si + 1 ∧ ρ = [x0, some (.ref r), some (.int (su : Nat)), some (.int (si : Nat)), x4, x5, y6, x7, x8, x9, x10, x11, x12, x13, x14, x15, some (.int (c : Nat)), some (conD (l : Nat) (s : Nat) d (c : Nat)), y18, some (.lst (sc.map .int)), y20, y21, y22, y23, y24, x25, x26, x27, x28, x29]) (fun N hN => ?_) ?_
  · simp only [dFor, dAny, dVal, dLst, dCons, dNil, dC, walkOf_lst, Option.some.injEq, Prod.mk.injEq, and_assoc, exists_and_left, exists_eq_left']
    refine ⟨by decide, by decide, by decide, by decide, ?_⟩
    refine forD_inv (fun i ρ S' => S' = S ∧ ∃ (y18 y19 y20 y21 y22 y23 y24 y6 : Option D), ρ = [x0, some (.ref r), some (.int (su : Nat)), some (.int (si : Nat)), x4, x5, y6, x7, x8, x9, x10, x11, x12, x13, x14, x15, some (.int (c : Nat)), some (conD (l : Nat) (s : Nat) d (c : Nat)), y18, y19, y20, y21, y22, y23, y24, x25, x26, x27, x28, x29] ∧
      (0 < i → ∃ sc : List Int, sc.length = si + 1 ∧ y19 = some (.lst (sc.map .int)))) ⟨rfl, _, _, _, _, _, _, _, _, rfl, fun h => absurd h (Nat.lt_irrefl 0)⟩ ?_ ?_
    · rintro i ρ S' x N' hx ⟨rfl, y18, y19, y20, y21, y22, y23, y24, y6, rfl, _⟩ hN'
      refine ⟨trivial, ?_⟩
      obtain ⟨a, b, rfl⟩ : ∃ a b : Bool, x = .lst [.bl a, .bl b] := by
        have := List.mem_of_getElem? hx
        simp only [List.mem_cons, List.not_mem_nil, or_false] at this
        rcases this with rfl | rfl | rfl
        · exact ⟨_, _, rfl⟩
        · exact ⟨_, _, rfl⟩
        · exact ⟨_, _, rfl⟩
      have hsc : ∀ t : Nat, t ≤ si → ∀ K : D → Sg → Prop, K (.int (scoreI su si l s d (vulOf a b c) (t : Nat))) S' → sp_score [.int (su : Nat), .int (si : Nat), conD (l : Nat) (s : Nat) d (c : Nat), .int (t : Nat), .lst [.bl a, .bl b]] S' K := fun t ht K hK => ⟨su, si, t, _, a, b, rfl, .inr ⟨l, s, c, d, rfl, hd, by omega, by omega, by omega, by omega, by omega, by omega, hK⟩⟩
      have hgl : (si : Int) / 2 + l ≤ si := by omega
      refine nxtE [x0, some (.ref r), some (.int (su : Nat)), some (.int (si : Nat)), x4, x5, y6, x7, x8, x9, x10, x11, x12, x13, x14, x15, some (.int (c : Nat)), some (conD (l : Nat) (s : Nat) d (c : Nat)), some (.lst [.bl a, .bl b]), some (.lst ((rowsI su si l s d (vulOf a b c) si).map .int)), y20, y21, y22, y23, y24, x25, x26, x27, x28, x29] (fun N hn => ?_) ?_
      · walk_at "dd"
        refine ⟨by omega, by omega, ?_⟩
        refine lcD_map (fun d' => .int (scoreI su si l s d (vulOf a b c) (dInt d'))) trivial _ ?_ (by rw [rgD_len]; exact Nat.le_of_lt (small_size (by omega))) ?_
        · rintro x hx Ky hKy
          obtain ⟨t, rfl, ht⟩ := mem_rgD hx
          walk_at "dd"
          rw [Int.zero_add] at hKy ht ⊢
          exact hsc t (by omega) _ hKy
        · have e : (rgD 0 ((si : Int) + 1)).map (fun d' => D.int (scoreI su si l s d (vulOf a b c) (dInt d'))) = (rowsI su si l s d (vulOf a b c) si).map .int := by
            unfold rgD rowsI
            rw [show ((si : Int) + 1 - 0).toNat = si + 1 by omega, List.map_map, List.map_map]
            refine List.map_congr_left fun t _ => ?_
            simp only [Function.comp, dInt, Int.zero_add]
          rw [e]
          exact hn
      refine nxt fun N hN => ?_
      simp only [conD]
      walk_at "dd"
      refine ⟨(si : Int), (l : Int), rfl, ?_⟩
      subst hN
      refine nxt fun N hN => ?_
      walk_at "dd"
      rw [if_neg (by simp)]
      refine ⟨by omega, by omega, by omega, by omega, ?_⟩
      refine lcD_pure (fun _ => false) id trivial _ _ ?_ (by simp only [rgD_len, List.length_nil]; exact Nat.le_of_lt (small_size (by omega))) ?_
      · rintro x hx Ky Kn h1 h2
        obtain ⟨t, rfl, ht⟩ := mem_rgD hx
        walk_at "dd"
        have e1 : (1 : Int) + (t : Nat) = ((t + 1 : Nat) : Int) := by omega
        have e2 : (1 : Int) + (t : Nat) - 1 = (t : Nat) := by omega
        rw [e2, e1]
        refine ⟨_, atI_natD (rowsI_get (by omega)), _, atI_natD (rowsI_get (by omega)), ?_⟩
        walk_at "dd"
        have := scoreI_succ (su := su) (si := si) (l := l) (s := s) (t := t) (d := d) (v := vulOf a b c) (by omega)
        have e3 : ((t + 1 : Nat) : Int) = (t : Int) + 1 := by omega
        rw [e3, if_neg (by omega)]
        exact h2 rfl
      have ef : ∀ xs : List D, (xs.filter fun _ => false) = [] := fun xs => by simp
      rw [ef]
      walk_at "dd"
      subst hN
      rw [if_neg (by decide)]
      have hsf : ∀ (t : Nat) (sd : Int), t ≤ si → ∀ K : D → Sg → Prop, K (.int (if (c : Int) % 2 = sd then scoreI su si l s d (vulOf a b c) (t : Nat) else -(scoreI su si l s d (vulOf a b c) (t : Nat)))) S' → sp_score_for [.int (su : Nat), .int (si : Nat), .tup [.int (l : Nat), .int (s : Nat), .int (d : Nat), .int (c : Nat)], .int (t : Nat), .lst [.bl a, .bl b], .int sd] S' K := fun t sd ht K hK => ⟨su, si, t, l, s, c, sd, d, a, b, rfl, hd, by omega, by omega, by omega, by omega, by omega, by omega, hK⟩
      refine nxtI (fun ρ S2 => S2 = S' ∧ ∃ y21 y22, ρ = [x0, some (.ref r), some (.int (su : Nat)), some (.int (si : Nat)), x4, x5, y6, x7, x8, x9, x10, x11, x12, x13, x14, x15, some (.int (c : Nat)), some (.tup [.int (l : Nat), .int (s : Nat), .int (d : Nat), .int (c : Nat)]), some (.lst [.bl a, .bl b]), some (.lst ((rowsI su si l s d (vulOf a b c) si).map .int)), some (.int ((si : Int) / 2 + l)), y21, y22, y23, y24, x25, x26, x27, x28, x29]) (fun N hN => ?_) ?_
      · simp only [dFor, dRng1, dCons, dNil, dC, dOp, dVar, addP, List.getElem?_cons_zero, List.getElem?_cons_succ, Option.some.injEq, exists_eq_left', List.cons.injEq, and_true, D.int.injEq]
        refine ⟨by omega, by omega, forD_inv (fun i ρ S2 => S2 = S' ∧ ∃ y21 y22, ρ = [x0, some (.ref r), some (.int (su : Nat)), some (.int (si : Nat)), x4, x5, y6, x7, x8, x9, x10, x11, x12, x13, x14, x15, some (.int (c : Nat)), some (.tup [.int (l : Nat), .int (s : Nat), .int (d : Nat), .int (c : Nat)]), some (.lst [.bl a, .bl b]), some (.lst ((rowsI su si l s d (vulOf a b c) si).map .int)), some (.int ((si : Int) / 2 + l)), y21, y22, y23, y24, x25, x26, x27, x28, x29]) ⟨rfl, _, _, rfl⟩ ?_ ?_⟩
        · rintro j ρ S2 x N2 hx2 ⟨rfl, z21, z22, rfl⟩ hN2
          refine ⟨trivial, ?_⟩
          obtain ⟨rfl, hj⟩ := rgD_get_inv hx2
          rw [Int.zero_add] at hj ⊢
          have hjs : j ≤ si := by omega
          have hr := atI_natD (rowsI_get (su := su) (si := si) (l := l) (s := s) (d := d) (v := vulOf a b c) hjs)
          have hpos := scoreI_pos (su := su) (si := si) (l := l) (s := s) (t := j) (d := d) (v := vulOf a b c) (by omega)
          refine nxt fun N3 hN3 => ?_
          repeat (first | walk_at "dd" | simp only [hr])
          rw [if_neg (fun z => z (decide_eq_decide.mpr hpos))]
          subst hN3
          refine nxt fun N3 hN3 => ?_
          walk_at "dd"
          refine hsf j _ hjs _ ?_
          rw [if_pos rfl]
          subst hN3
          repeat (first | walk_at "dd" | simp only [hr])
          rw [if_neg (by simp)]
          refine hsf j _ hjs _ ?_
          rw [if_neg (by omega)]
          repeat (first | walk_at "dd" | simp only [hr])
          rw [if_neg (by simp)]
          exact hN2 _ _ ⟨rfl, _, _, rfl⟩
        · rintro ρ S2 ⟨rfl, z21, z22, rfl⟩
          exact ⟨trivial, hN _ _ ⟨rfl, _, _, rfl⟩⟩
      rintro ρ S2 ⟨rfl, z21, z22, rfl⟩
      have cut2 : cutD [D.int (l : Nat), .int (s : Nat), .int (d : Nat), .int (c : Nat)] none (some 2) = [.int (l : Nat), .int (s : Nat)] := cutD_to (n := 2) (by simp)
      refine nxt fun N hN => ?_
      repeat (first | walk_at "dd" | simp only [slP, cut2])
      refine ⟨by decide, by decide, ?_⟩
      subst hN
      refine nxt fun N hN => ?_
      repeat (first | walk_at "dd" | simp only [slP, cut2])
      refine ⟨by decide, by decide, ?_⟩
      subst hN
      simp only [dFor, dRng1, dCons, dNil, dC, dOp, dVar, addP, List.getElem?_cons_zero, List.getElem?_cons_succ, Option.some.injEq, exists_eq_left', List.cons.injEq, and_true, D.int.injEq]
      refine ⟨by omega, by omega, forD_inv (fun i ρ S3 => S3 = S2 ∧ ∃ y21, ρ = [x0, some (.ref r), some (.int (su : Nat)), some (.int (si : Nat)), x4, x5, y6, x7, x8, x9, x10, x11, x12, x13, x14, x15, some (.int (c : Nat)), some (.tup [.int (l : Nat), .int (s : Nat), .int (d : Nat), .int (c : Nat)]), some (.lst [.bl a, .bl b]), some (.lst ((rowsI su si l s d (vulOf a b c) si).map .int)), some (.int ((si : Int) / 2 + l)), y21, z22, some (.tup [.int (l : Nat), .int (s : Nat), .int 1, .int (c : Nat)]), some (.tup [.int (l : Nat), .int (s : Nat), .int 2, .int (c : Nat)]), x25, x26, x27, x28, x29]) ⟨rfl, _, rfl⟩ ?_ ?_⟩
      · rintro j ρ S3 x N2 hx2 ⟨rfl, z21, rfl⟩ hN2
        refine ⟨trivial, ?_⟩
        obtain ⟨rfl, hj⟩ := rgD_get_inv hx2
        rw [Int.zero_add] at hj ⊢
        have hjs : j ≤ si := by omega
        have hsd : ∀ (dd : Nat), dd ≤ 2 → ∀ K : D → Sg → Prop, K (.int (scoreI su si l s dd (vulOf a b c) (j : Nat))) S3 → sp_score [.int (su : Nat), .int (si : Nat), .tup [.int (l : Nat), .int (s : Nat), .int (dd : Nat), .int (c : Nat)], .int (j : Nat), .lst [.bl a, .bl b]] S3 K := fun dd hdd K hK => ⟨su, si, j, _, a, b, rfl, .inr ⟨l, s, c, dd, rfl, hdd, by omega, by omega, by omega, by omega, by omega, by omega, hK⟩⟩
        walk_at "dd"
        refine hsd 2 (by decide) _ ?_
        refine hsd 1 (by decide) _ ?_
        walk_at "dd"
        refine ⟨.inl (by decide), ?_⟩
        rw [if_neg (fun z => z (scoreI_two (by omega)))]
        exact hN2 _ _ ⟨rfl, _, rfl⟩
      · rintro ρ S3 ⟨rfl, z21, rfl⟩
        exact ⟨trivial, hN' _ _ ⟨rfl, _, _, _, _, _, _, _, _, rfl, fun _ => ⟨_, by unfold rowsI; rw [List.length_map, List.length_range], rfl⟩⟩⟩
    · rintro ρ S' ⟨rfl, y18, y19, y20, y21, y22, y23, y24, y6, rfl, h⟩
      obtain ⟨sc, h1, rfl⟩ := h (by decide)
      exact ⟨trivial, hN _ _ ⟨rfl, sc, _, _, _, _, _, _, _, h1, rfl⟩⟩
  · rintro ρ S1 ⟨rfl, sc, y18, y20, y21, y22, y23, y24, y6, h1, rfl⟩
    exact tailE W hn hsi h1 hP
end DL
set_option autoImplicit false
namespace DL
open PySem L2 PySem.Spec PyProof.Rows
local macro_rules | `(tactic| walk_at "dd") => `(tactic| simp only [dRet, dRetW, dRetF, dOp, dVar, dC, dIf, dT, dUn, dChain, dAndV, dOrV, dNotV, dAnd, dOr, dNot, dNil, dCons, dTup, dLst, dVal, dCell, dCB, dCall, dMeth, dMake, dSeq, dAsg, dAug, dIfS, dNext, dDrop, dgName, dgNil, dgCons, dgTup, DEnds.fin, dFld, dFldS, dFor, dLc, dAny, dRng1, dRng2, dEnum, dNever, dSl, dPart, dNoPart, dBM, dDisp, dPairs,
  modP, addP, subP, mulP, fdivP, lessP, leP, gtP, geP, eqP, neP, isNP, iaddP, negP, ixP_tup, ixP_lst, ixP_frz, ixP_str, atI_a0, atI_a1, atI_a2, atI_a3, atI_a4, atI_a5, seqOf_tup, seqOf_lst, seqOf_frz, lstOf_lst, lstOf_tup, walkOf_tup, walkOf_lst, walkOf_str, datOf_tup, datOf_lst, Cell.lst.injEq, D.lst.injEq, String.reduceEq, D.isNon, lenP, intP, List.getElem?_cons_zero, List.getElem?_cons_succ, Option.some.injEq, Prod.mk.injEq, exists_eq_left', exists_eq_left, D.int.injEq, D.bl.injEq, D.str.injEq, D.tup.injEq, D.ref.injEq, Cell.ins.injEq, List.cons.injEq, and_true, true_and, and_self, List.set_cons_zero, List.set_cons_succ, reduceCtorEq, List.map_cons, List.map_nil, List.nil_append, List.cons_append, startD, List.length_cons, List.length_nil, List.replicate, wipeD, put_same, rgD_len0, List.map_cons, List.append_nil, tyD, isiP, decide_true, decide_false, Bool.true_and, Bool.false_and, Bool.and_true, Bool.and_false, Bool.or_true, Bool.or_false, Bool.true_or, Bool.false_or, Bool.not_true, Bool.not_false, powP, minU, maxU, min2P, max2P, dgSub, dCat, dListOf, strP, decide_eq_true_eq, and_assoc, exists_and_left, exists_eq, Bool.not_eq_true', decide_eq_false_iff_not, exists_false, false_and, ↓reduceIte, Bool.false_eq_true, if_true, if_false, Int.reduceLT, Int.reduceNeg, Nat.reduceAdd])
theorem lcD_gen {α : Type} {dg : DG} {dt : DT} {de : DE} {ρ0 : Rho} {st : Sg → Prop} {P : List D → Sg → Prop} {S : Sg} (emb : α → D) (p : α → Bool) (g : α → D) (hst : st S) : ∀ (xs : List α) (acc : List D),
    (∀ x ∈ xs, ∀ (Ky : D → Sg → Prop) (Kn : Sg → Prop), (p x = true → Ky (g x) S) → (p x = false → Kn S) → dg (emb x) ρ0 S fun ρ1 S1 => dt ρ1 S1 fun b S2 => if b = true then de ρ1 S2 Ky else Kn S2) →
    acc.length + xs.length ≤ sizeLine → P (acc ++ (xs.filter p).map g) S → lcD dg dt de ρ0 st P (xs.map emb) acc S
  | [], acc, _, _, h => ⟨hst, by simpa using h⟩
  | x :: xs, acc, hx, hl, h => by
    rw [List.length_cons] at hl
    refine ⟨hst, hx x List.mem_cons_self _ _ (fun e => ?_) fun e => ?_⟩
    · rw [List.filter_cons, if_pos e] at h
      exact ⟨by omega, lcD_gen emb p g hst xs _ (fun y hy => hx y (List.mem_cons_of_mem _ hy)) (by simp only [List.length_append, List.length_cons, List.length_nil]; omega) (by simpa using h)⟩
    · rw [List.filter_cons, if_neg (by rw [e]; exact Bool.false_ne_true)] at h
      exact lcD_gen emb p g hst xs _ (fun y hy => hx y (List.mem_cons_of_mem _ hy)) (by omega) h
def atC (p : Cl → Bool) (cs : List Cl) (i : Nat) : Bool := match cs[i]? with
  | some c => p c
  | none => false
theorem plc_range (p : Cl → Bool) : ∀ (k : Nat) (cs : List Cl), plc p k cs = ((List.range cs.length).filter (atC p cs)).map fun i => k + i
  | k, [] => rfl
  | k, c :: r => by
    rw [List.length_cons, List.range_succ_eq_map, List.filter_cons, List.filter_map, plc, plc_range p (k + 1) r]
    have e : (atC p (c :: r) ∘ Nat.succ) = atC p r := by
      funext i
      simp only [Function.comp, atC, Nat.succ_eq_add_one, List.getElem?_cons_succ]
    have e0 : atC p (c :: r) 0 = p c := rfl
    rw [e, e0]
    have e2 : ((List.range r.length).filter (atC p r)).map (fun i => k + 1 + i) = (((List.range r.length).filter (atC p r)).map Nat.succ).map (fun i => k + i) := by
      rw [List.map_map]
      refine List.map_congr_left fun i _ => ?_
      simp only [Function.comp, Nat.succ_eq_add_one]; omega
    rw [e2]
    split <;> rfl
theorem plc_range0 (p : Cl → Bool) (cs : List Cl) : plc p 0 cs = (List.range cs.length).filter (atC p cs) := by
  rw [plc_range]
  simp
theorem rgD_emb (m : Nat) : rgD 0 (m : Int) = (List.range m).map fun i => D.int (i : Nat) := by
  unfold rgD
  rw [show ((m : Int) - 0).toNat = m by omega]
  refine List.map_congr_left fun i _ => ?_
  rw [Int.zero_add]
def strainOf : Cl → Nat
  | .bid _ s => s
  | _ => 0
def sameAs (cs : List Cl) (n s : Nat) (k : Nat) : Bool := match cs[k]? with
  | some c => decide (strainOf c = s) && decide (k % 2 = n % 2)
  | none => false
theorem tailC {S : Sg} {P : D → Sg → Prop} {r q a p : Addr} {rows : List Int} {n su si dl : Nat} {cs : List Cl} {x0 x6 x7 x8 x10 x11 x12 x13 x14 x15 x16 x17 x18 x19 x20 x21 x22 x23 x24 x25 x26 x27 x28 x29 : Option D}
    (W : PoolAt S r q rows n) (hn : n < 100000000) (s1 : 1 ≤ si) (hsi : si ≤ 13) (u4 : su ≤ 4) (hA : AucAt S a p (bidsL su (si - si / 2)) dl cs) (hS : Auc (bidsL su (si - si / 2)) cs) (ho : over cs = true) (hP : ∀ S, P (.bl true) S) :
    d_lawC (DEnds.fin P) [x0, some (.ref r), some (.int (su : Nat)), some (.int (si : Nat)), some (.int (dl : Nat)), some (.ref a), x6, x7, x8, some (.lst (cs.map Cl.d)), x10, x11, x12, x13, x14, x15, x16, x17, x18, x19, x20, x21, x22, x23, x24, x25, x26, x27, x28, x29] S := by
  obtain ⟨hU, hB36, hbid, hBf⟩ := bids_B (su := su) (top := si - si / 2) u4 (by omega)
  have hlen := hS.len hB36
  unfold d_lawC
  refine nxtE [x0, some (.ref r), some (.int (su : Nat)), some (.int (si : Nat)), some (.int (dl : Nat)), some (.ref a), x6, x7, x8, some (.lst (cs.map Cl.d)), x10, some (.lst ((plc Cl.isBid 0 cs).map fun n => .int (n : Nat))), x12, x13, x14, x15, x16, x17, x18, x19, x20, x21, x22, x23, x24, x25, x26, x27, x28, x29] (fun N hN => ?_) ?_
  · walk_at "dd"
    rw [List.length_map]
    refine ⟨by omega, by omega, ?_⟩
    rw [rgD_emb]
    refine lcD_gen (fun i : Nat => D.int (i : Nat)) (atC Cl.isBid cs) (fun i : Nat => D.int (i : Nat)) trivial _ _ ?_ (by rw [List.length_nil, List.length_range]; exact Nat.le_of_lt (small_size (by omega))) ?_
    · rintro i hi Ky Kn h1 h2
      have hi' := List.mem_range.mp hi
      have hc : cs[i]? = some cs[i] := List.getElem?_eq_getElem hi'
      have hat : ∀ p, atC p cs i = p cs[i] := fun p => by unfold atC; rw [hc]
      rw [hat] at h1 h2
      repeat (first | walk_at "dd" | simp only [atI_natD (getD_map hc)])
      generalize cs[i] = c at h1 h2 ⊢
      cases c <;> simp only [Cl.d] <;> walk_at "dd"
      · rw [if_neg (by decide)]; exact h2 rfl
      · rw [if_neg (by decide)]; exact h2 rfl
      · rw [if_neg (by decide)]; exact h2 rfl
      · exact h1 rfl
    · rw [List.nil_append, ← plc_range0]
      exact hN
  cases hS with
  | @op m hm =>
    rw [op_over hm] at ho
    have h4 := of_decide_eq_true ho
    subst h4
    have e : plc Cl.isBid 0 (List.replicate 4 Cl.pass) = [] := plc_rep _ _ _ rfl
    rw [e]
    refine nxt fun N hN => ?_
    have hA' := hA.a
    repeat (first | walk_at "dd" | simp only [hA'])
    refine ⟨auc_mem, look_m (by decide), a, p, _, dl, _, rfl, hA, by rw [op_over (by decide)]; rfl, .inl ⟨by unfold lastB; rw [e]; decide, ?_⟩⟩
    walk_at "dd"
    rw [if_pos (by decide)]
    refine ⟨by decide, su, si, 0, .non, true, false, rfl, .inl ⟨rfl, ?_⟩⟩
    walk_at "dd"
    exact ⟨S, fun _ _ e => e, hP _⟩
  | @mid pre post b j t pp hj hb hT hl =>
    rw [mid_over hb hT] at ho
    have hpp := of_decide_eq_true ho
    obtain ⟨l, s, rfl, l1, l2, hs⟩ := hBf b (List.mem_of_getElem? hj)
    obtain ⟨hmN, hmB⟩ := mid_last hb hT
    have hov := mid_over (pre := pre) hb hT
    obtain ⟨hlm, c0, hc0, hd0, hnp0⟩ := hT.lst hb 0
    have hcnt := hT.cnt
    have hbd := hT.bd
    have hdrop : (pre ++ Cl.bid l s :: post).drop pre.length = Cl.bid l s :: post := List.drop_left
    have hget : (pre ++ Cl.bid l s :: post)[pre.length]? = some (.bid l s) := by rw [List.getElem?_append_right (Nat.le_refl _), Nat.sub_self]; rfl
    have hgetm : (pre ++ Cl.bid l s :: post)[pre.length + (post.length - pp)]? = some c0 := by rw [List.getElem?_append_right (Nat.le_add_right _ _), Nat.add_sub_cancel_left]; exact hc0
    generalize hcs : pre ++ Cl.bid l s :: post = cs at *
    have hplen : pre.length < cs.length := (List.getElem?_eq_some_iff.mp hget).1
    generalize hn0 : pre.length = n0 at *
    have hlast : (plc Cl.isBid 0 cs).getLast? = some n0 := by
      unfold lastB lastOf at hmB
      cases e : (plc Cl.isBid 0 cs).getLast? with
      | none => rw [e] at hmB; simp only at hmB; omega
      | some z => rw [e] at hmB; simp only at hmB; congr 1; omega
    have hne : plc Cl.isBid 0 cs ≠ [] := fun e => by rw [e] at hlast; cases hlast
    have hpos := List.length_pos_iff.mpr hne
    have hAt := atI_natD (getD_map hget)
    refine nxt fun N hN => ?_
    walk_at "dd"
    rw [List.length_map, if_neg (by omega)]
    subst hN
    refine nxtE [x0, some (.ref r), some (.int (su : Nat)), some (.int (si : Nat)), some (.int (dl : Nat)), some (.ref a), x6, x7, x8, some (.lst (cs.map Cl.d)), x10, some (.lst ((plc Cl.isBid 0 cs).map fun n => .int (n : Nat))), some (.int (n0 : Nat)), x13, x14, x15, x16, x17, x18, x19, x20, x21, x22, x23, x24, x25, x26, x27, x28, x29] (fun N hN => ?_) ?_
    · walk_at "dd"
      exact ⟨_, atI_last (by rw [List.getLast?_map, hlast]; rfl), hN⟩
    refine nxtE [x0, some (.ref r), some (.int (su : Nat)), some (.int (si : Nat)), some (.int (dl : Nat)), some (.ref a), x6, x7, x8, some (.lst (cs.map Cl.d)), x10, some (.lst ((plc Cl.isBid 0 cs).map fun n => .int (n : Nat))), some (.int (n0 : Nat)), some (.int (t : Nat)), x14, x15, x16, x17, x18, x19, x20, x21, x22, x23, x24, x25, x26, x27, x28, x29] (fun N hN => ?_) ?_
    · have hcut : cutD (cs.map Cl.d) (some (n0 : Int)) none = (Cl.bid l s :: post).map Cl.d := by rw [cutD_from (by rw [List.length_map]; omega), ← List.map_drop, hdrop]
      have hpl : (Cl.bid l s :: post).length < 1000 := by rw [← hdrop, List.length_drop]; omega
      have hcnt2 : ((Cl.bid l s :: post).filter isDbl).length + ((Cl.bid l s :: post).filter isRdbl).length = t := hcnt
      generalize Cl.bid l s :: post = tl at hcut hpl hcnt2
      repeat (first | walk_at "dd" | simp only [slP, hcut])
      refine lcD_gen Cl.d isDbl Cl.d trivial _ _ ?_ (by rw [List.length_nil]; exact Nat.le_of_lt (small_size (by omega))) ?_
      · rintro c hc Ky Kn h1 h2
        cases c <;> simp only [Cl.d] <;> walk_at "dd"
        · rw [if_neg (by decide)]; exact h2 rfl
        · exact h1 rfl
        · rw [if_neg (by decide)]; exact h2 rfl
        · rw [if_neg (by decide)]; exact h2 rfl
      refine lcD_gen Cl.d isRdbl Cl.d trivial _ _ ?_ (by rw [List.length_nil]; exact Nat.le_of_lt (small_size (by omega))) ?_
      · rintro c hc Ky Kn h1 h2
        cases c <;> simp only [Cl.d] <;> walk_at "dd"
        · rw [if_neg (by decide)]; exact h2 rfl
        · rw [if_neg (by decide)]; exact h2 rfl
        · exact h1 rfl
        · rw [if_neg (by decide)]; exact h2 rfl
      simp only [List.nil_append, List.length_map]
      have e : ((tl.filter isDbl).length : Int) + ((tl.filter isRdbl).length : Int) = (t : Nat) := by omega
      rw [e]
      exact hN
    refine nxtE [x0, some (.ref r), some (.int (su : Nat)), some (.int (si : Nat)), some (.int (dl : Nat)), some (.ref a), x6, x7, x8, some (.lst (cs.map Cl.d)), x10, some (.lst ((plc Cl.isBid 0 cs).map fun n => .int (n : Nat))), some (.int (n0 : Nat)), some (.int (t : Nat)), some (.int (s : Nat)), x15, x16, x17, x18, x19, x20, x21, x22, x23, x24, x25, x26, x27, x28, x29] (fun N hN => ?_) ?_
    · repeat (first | walk_at "dd" | simp only [hAt, Cl.d])
      exact hN
    obtain ⟨k0, rest, hF⟩ : ∃ k0 rest, (plc Cl.isBid 0 cs).filter (sameAs cs n0 s) = k0 :: rest := by
      have hin : n0 ∈ (plc Cl.isBid 0 cs).filter (sameAs cs n0 s) := List.mem_filter.mpr ⟨List.mem_of_getLast? hlast, by unfold sameAs; rw [hget]; simp [strainOf]⟩
      cases e : (plc Cl.isBid 0 cs).filter (sameAs cs n0 s) with
      | nil => rw [e] at hin; cases hin
      | cons k0 rest => exact ⟨k0, rest, rfl⟩
    have hk0 : k0 ∈ (plc Cl.isBid 0 cs).filter (sameAs cs n0 s) := by rw [hF]; exact List.mem_cons_self
    obtain ⟨hk1, hk2⟩ := List.mem_filter.mp hk0
    obtain ⟨k', ck, ek, hck, hbk⟩ := plc_mem hk1
    rw [Nat.zero_add] at ek
    subst ek
    have hk3 : strainOf ck = s ∧ k0 % 2 = n0 % 2 := by
      unfold sameAs at hk2
      rw [hck] at hk2
      simpa using hk2
    obtain ⟨lk, hlk⟩ : ∃ lk, ck = .bid lk s := by
      cases ck with
      | bid lk sk => exact ⟨lk, by rw [← hk3.1]; rfl⟩
      | _ => cases hbk
    subst hlk
    have hfirst : ∀ j : Nat, j < k0 → ∀ lj : Nat, cs[j]? = some (.bid lj s) → plr dl j % 2 ≠ plr dl n0 % 2 := by
      intro j hj lj hcj hpj
      have h1 := plc_of (p := Cl.isBid) (k := 0) hcj rfl
      rw [Nat.zero_add] at h1
      have h2 : j ∈ (plc Cl.isBid 0 cs).filter (sameAs cs n0 s) := List.mem_filter.mpr ⟨h1, by unfold sameAs; rw [hcj]; unfold plr at hpj; simp [strainOf]; omega⟩
      have := head_le ((plc_sorted Cl.isBid 0 cs).1.filter _) hF j h2
      omega
    have hside : plr dl k0 % 2 = plr dl n0 % 2 := by
      have := hk3.2
      unfold plr; omega
    have hk0l : k0 < cs.length := (List.getElem?_eq_some_iff.mp hck).1
    refine nxtE [x0, some (.ref r), some (.int (su : Nat)), some (.int (si : Nat)), some (.int (dl : Nat)), some (.ref a), x6, x7, x8, some (.lst (cs.map Cl.d)), x10, some (.lst ((plc Cl.isBid 0 cs).map fun n => .int (n : Nat))), some (.int (n0 : Nat)), some (.int (t : Nat)), some (.int (s : Nat)), some (.int (k0 : Nat)), x16, x17, x18, x19, x20, x21, x22, x23, x24, x25, x26, x27, x28, x29] (fun N hN => ?_) ?_
    · walk_at "dd"
      refine lcD_gen (fun n : Nat => D.int (n : Nat)) (sameAs cs n0 s) (fun n : Nat => D.int (n : Nat)) trivial _ _ ?_ (by have := plc_len Cl.isBid 0 cs; rw [List.length_nil]; exact Nat.le_of_lt (small_size (by omega))) ?_
      · rintro k hk Ky Kn h1 h2
        obtain ⟨k', c, e, hc, hbc⟩ := plc_mem hk
        rw [Nat.zero_add] at e
        subst e
        have hcA := atI_natD (getD_map hc)
        cases c with
        | bid lk sk =>
          unfold sameAs at h1 h2
          rw [hc] at h1 h2
          repeat (first | walk_at "dd" | simp only [hcA, Cl.d])
          by_cases es : sk = s
          · rw [if_pos (by omega)]
            by_cases ep : k % 2 = n0 % 2
            · skip
              rw [if_pos (by omega)]
              exact h1 (by simp [strainOf, es, ep])
            · skip
              rw [if_neg (by omega)]
              exact h2 (by simp [strainOf, ep])
          · rw [if_neg (by omega)]
            exact h2 (by simp [strainOf, es])
        | _ => cases hbc
      · rw [hF]
        walk_at "dd"
        exact hN
    refine nxtE [x0, some (.ref r), some (.int (su : Nat)), some (.int (si : Nat)), some (.int (dl : Nat)), some (.ref a), x6, x7, x8, some (.lst (cs.map Cl.d)), x10, some (.lst ((plc Cl.isBid 0 cs).map fun n => .int (n : Nat))), some (.int (n0 : Nat)), some (.int (t : Nat)), some (.int (s : Nat)), some (.int (k0 : Nat)), some (.int (plr dl k0 : Nat)), x17, x18, x19, x20, x21, x22, x23, x24, x25, x26, x27, x28, x29] (fun N hN => ?_) ?_
    · walk_at "dd"
      have e : ((dl : Int) + (k0 : Int)) % 4 = (plr dl k0 : Nat) := by unfold plr; omega
      rw [e]
      exact hN
    refine nxtE [x0, some (.ref r), some (.int (su : Nat)), some (.int (si : Nat)), some (.int (dl : Nat)), some (.ref a), x6, x7, x8, some (.lst (cs.map Cl.d)), x10, some (.lst ((plc Cl.isBid 0 cs).map fun n => .int (n : Nat))), some (.int (n0 : Nat)), some (.int (t : Nat)), some (.int (s : Nat)), some (.int (k0 : Nat)), some (.int (plr dl k0 : Nat)), some (conD (l : Nat) (s : Nat) t (plr dl k0 : Nat)), x18, x19, x20, x21, x22, x23, x24, x25, x26, x27, x28, x29] (fun N hN => ?_) ?_
    · repeat (first | walk_at "dd" | simp only [hAt, Cl.d])
      exact ⟨by decide, hN⟩
    refine nxt fun N hN => ?_
    have hA' := hA.a
    repeat (first | walk_at "dd" | simp only [hA'])
    refine ⟨auc_mem, look_m (by decide), a, p, _, dl, _, rfl, hA, by rw [hov]; exact decide_eq_true hpp, .inr ⟨n0, l, s, _, k0, lk, c0, hmB, hget, hmN, hgetm, hnp0, hck, hside, hfirst, ?_⟩⟩
    rw [hd0]
    have hpure : (conD (l : Nat) (s : Nat) t (plr dl k0 : Nat)).pure = true := by simp [D.pure, D.pureL]
    refine ⟨_, _, rfl, hpure, hpure, by simp [D.dep, D.depL], _, rfl, ?_⟩
    rw [decide_eq_true rfl]
    walk_at "dd"
    subst hN
    refine tailD W hn s1 hsi l1 l2 (by omega) (by unfold plr; omega) hP
end DL
set_option autoImplicit false
namespace DL
open PySem L2 PySem.Spec PyProof.Rows
local macro_rules | `(tactic| walk_at "dd") => `(tactic| simp only [dRet, dRetW, dRetF, dOp, dVar, dC, dIf, dT, dUn, dChain, dAndV, dOrV, dNotV, dAnd, dOr, dNot, dNil, dCons, dTup, dLst, dVal, dCell, dCB, dCall, dMeth, dMake, dSeq, dAsg, dAug, dIfS, dNext, dDrop, dgName, dgNil, dgCons, dgTup, DEnds.fin, dFld, dFldS, dFor, dLc, dAny, dRng1, dRng2, dEnum, dNever, dSl, dPart, dNoPart, dBM, dDisp, dPairs,
  modP, addP, subP, mulP, fdivP, lessP, leP, gtP, geP, eqP, neP, isNP, iaddP, negP, ixP_tup, ixP_lst, ixP_frz, ixP_str, atI_a0, atI_a1, atI_a2, atI_a3, atI_a4, atI_a5, seqOf_tup, seqOf_lst, seqOf_frz, lstOf_lst, lstOf_tup, walkOf_tup, walkOf_lst, walkOf_str, datOf_tup, datOf_lst, Cell.lst.injEq, D.lst.injEq, String.reduceEq, D.isNon, lenP, intP, List.getElem?_cons_zero, List.getElem?_cons_succ, Option.some.injEq, Prod.mk.injEq, exists_eq_left', exists_eq_left, D.int.injEq, D.bl.injEq, D.str.injEq, D.tup.injEq, D.ref.injEq, Cell.ins.injEq, List.cons.injEq, and_true, true_and, and_self, List.set_cons_zero, List.set_cons_succ, reduceCtorEq, List.map_cons, List.map_nil, List.nil_append, List.cons_append, startD, List.length_cons, List.length_nil, List.replicate, wipeD, put_same, rgD_len0, List.map_cons, List.append_nil, tyD, isiP, decide_true, decide_false, Bool.true_and, Bool.false_and, Bool.and_true, Bool.and_false, Bool.or_true, Bool.or_false, Bool.true_or, Bool.false_or, Bool.not_true, Bool.not_false, powP, minU, maxU, min2P, max2P, dgSub, dCat, dListOf, strP, decide_eq_true_eq, and_assoc, exists_and_left, exists_eq, Bool.not_eq_true', decide_eq_false_iff_not, exists_false, false_and, ↓reduceIte, Bool.false_eq_true, if_true, if_false, Int.reduceLT, Int.reduceNeg, Nat.reduceAdd])
theorem pure_strs (xs : List Str) (h : xs.length < 10000000) : (D.lst (xs.map .str)).pure = true ∧ (D.lst (xs.map .str)).dep < 29 := by
  have h1 : D.pureL (xs.map .str) = true := by
    rw [D.pureL_all, List.all_eq_true]
    intro x hx
    obtain ⟨c, _, rfl⟩ := List.mem_map.mp hx
    rfl
  have h2 : D.depL (xs.map .str) = 0 := by
    clear h h1
    induction xs with
    | nil => simp [D.depL]
    | cons n ns ih => simp [D.depL, D.dep, ih]
  refine ⟨?_, ?_⟩
  · rw [D.pure, h1, Bool.and_true, List.length_map]
    exact decide_eq_true h
  · rw [D.dep, h2]
    decide
theorem pure_calls (cs : List Cl) (h : cs.length < 10000000) : (D.lst (cs.map Cl.d)).pure = true ∧ (D.lst (cs.map Cl.d)).dep < 29 := by
  have h1 : D.pureL (cs.map Cl.d) = true := by
    rw [D.pureL_all, List.all_eq_true]
    intro x hx
    obtain ⟨c, _, rfl⟩ := List.mem_map.mp hx
    exact c.pure
  have h2 : D.depL (cs.map Cl.d) ≤ 1 := by
    clear h h1
    induction cs with
    | nil => simp [D.depL]
    | cons c B ih =>
      have : c.d.dep ≤ 1 := by cases c <;> simp [Cl.d, D.dep, D.depL]
      simp only [List.map_cons, D.depL]; omega
  refine ⟨?_, ?_⟩
  · rw [D.pure, h1, Bool.and_true, List.length_map]
    exact decide_eq_true h
  · rw [D.dep]
    omega
/-- a comprehension without a test, over what is embedded -/
theorem lcD_emb {α : Type} {dg : DG} {de : DE} {ρ0 : Rho} {st : Sg → Prop} {P : List D → Sg → Prop} {S : Sg} (emb : α → D) (g : α → D) (hst : st S) : ∀ (xs : List α) (acc : List D),
    (∀ x ∈ xs, ∀ (Ky : D → Sg → Prop), Ky (g x) S → dg (emb x) ρ0 S fun ρ1 S1 => de ρ1 S1 Ky) →
    acc.length + xs.length ≤ sizeLine → P (acc ++ xs.map g) S → lcD dg dYes de ρ0 st P (xs.map emb) acc S
  | [], acc, _, _, h => ⟨hst, by simpa using h⟩
  | x :: xs, acc, hx, hl, h => by
    rw [List.length_cons] at hl
    have := hx x List.mem_cons_self (fun y S3 => acc.length < sizeLine ∧ lcD dg dYes de ρ0 st P (xs.map emb) (acc ++ [y]) S3) ⟨by omega, lcD_emb emb g hst xs _ (fun y hy => hx y (List.mem_cons_of_mem _ hy)) (by simp only [List.length_append, List.length_cons, List.length_nil]; omega) (by simpa using h)⟩
    refine ⟨hst, ?_⟩
    show dg (emb x) ρ0 S fun ρ1 S1 => if true = true then de ρ1 S1 (fun y S3 => acc.length < sizeLine ∧ lcD dg dYes de ρ0 st P (xs.map emb) (acc ++ [y]) S3) else lcD dg dYes de ρ0 st P (xs.map emb) acc S1
    simp only [if_true]
    exact this
theorem tailB {S : Sg} {P : D → Sg → Prop} {r q a p : Addr} {rows : List Int} {n su si dl : Nat} {cs : List Cl} {x0 x6 x7 x8 : Option D}
    (W : PoolAt S r q rows n) (hn : n < 100000000) (s1 : 1 ≤ si) (hsi : si ≤ 13) (u1 : 1 ≤ su) (u4 : su ≤ 4) (hA : AucAt S a p (bidsL su (si - si / 2)) dl cs) (hS : Auc (bidsL su (si - si / 2)) cs) (hf : ∀ c ∈ cs, c.fits su) (ho : over cs = true) (hP : ∀ S, P (.bl true) S) :
    d_lawB (DEnds.fin P) [x0, some (.ref r), some (.int (su : Nat)), some (.int (si : Nat)), some (.int (dl : Nat)), some (.ref a), x6, x7, x8, none, none, none, none, none, none, none, none, none, none, none, none, none, none, none, none, none, none, none, none, none] S := by
  have hl := hA.small
  have hls : cs.length ≤ sizeLine := Nat.le_of_lt (small_size (by omega))
  unfold d_lawB
  refine nxt fun N hN => ?_
  have hA' := hA.a
  repeat (first | walk_at "dd" | simp only [hA'])
  refine ⟨auc_mem, look_m (by decide), a, p, _, dl, cs, rfl, hA, ?_⟩
  subst hN
  refine nxtE [x0, some (.ref r), some (.int (su : Nat)), some (.int (si : Nat)), some (.int (dl : Nat)), some (.ref a), x6, x7, x8, some (.lst (cs.map Cl.d)), some (.lst ((cs.map (textOf su)).map .str)), none, none, none, none, none, none, none, none, none, none, none, none, none, none, none, none, none, none, none] (fun N hN => ?_) ?_
  · walk_at "dd"
    refine lcD_emb Cl.d (fun c => .str (textOf su c)) trivial _ _ ?_ (by rw [List.length_nil]; omega) ?_
    · rintro c hc Ky hKy
      walk_at "dd"
      exact ⟨su, c, rfl, u1, u4, hf c hc, hKy⟩
    · rw [List.nil_append]
      rw [List.map_map] at hN
      exact hN
  refine nxt fun N hN => ?_
  walk_at "dd"
  refine lcD_emb Cl.d (fun c => .str (textOf su c)) trivial _ _ ?_ (by rw [List.length_nil]; omega) ?_
  · rintro c hc Ky hKy
    walk_at "dd"
    exact ⟨su, c, rfl, u1, u4, hf c hc, hKy⟩
  have e1 : cs.map (fun c => D.str (textOf su c)) = (cs.map (textOf su)).map .str := by rw [List.map_map]; rfl
  rw [List.nil_append, e1]
  have ht := pure_strs (cs.map (textOf su)) (by rw [List.length_map]; omega)
  refine ⟨_, _, rfl, ht.1, ht.1, ht.2, _, rfl, ?_⟩
  rw [decide_eq_true rfl]
  walk_at "dd"
  rw [← e1]
  refine lcD_emb (fun c => D.str (textOf su c)) Cl.d trivial _ _ ?_ (by rw [List.length_nil]; omega) ?_
  · rintro c hc Ky hKy
    walk_at "dd"
    exact ⟨su, c, rfl, u1, u4, hf c hc, hKy⟩
  rw [List.nil_append]
  have hc := pure_calls cs (by omega)
  refine ⟨_, _, rfl, hc.1, hc.1, hc.2, _, rfl, ?_⟩
  rw [decide_eq_true rfl]
  walk_at "dd"
  subst hN
  exact tailC W hn s1 hsi u4 hA hS ho hP
end DL
set_option autoImplicit false
namespace DL
open PySem L2 PySem.Spec PyProof.Rows
local macro_rules | `(tactic| walk_at "dd") => `(tactic| simp only [dRet, dRetW, dRetF, dOp, dVar, dC, dIf, dT, dUn, dChain, dAndV, dOrV, dNotV, dAnd, dOr, dNot, dNil, dCons, dTup, dLst, dVal, dCell, dCB, dCall, dMeth, dMake, dSeq, dAsg, dAug, dIfS, dNext, dDrop, dgName, dgNil, dgCons, dgTup, DEnds.fin, dFld, dFldS, dFor, dLc, dAny, dRng1, dRng2, dEnum, dNever, dSl, dPart, dNoPart, dBM, dDisp, dPairs,
  modP, addP, subP, mulP, fdivP, lessP, leP, gtP, geP, eqP, neP, isNP, iaddP, negP, ixP_tup, ixP_lst, ixP_frz, ixP_str, atI_a0, atI_a1, atI_a2, atI_a3, atI_a4, atI_a5, seqOf_tup, seqOf_lst, seqOf_frz, lstOf_lst, lstOf_tup, walkOf_tup, walkOf_lst, walkOf_str, datOf_tup, datOf_lst, Cell.lst.injEq, D.lst.injEq, String.reduceEq, D.isNon, lenP, intP, List.getElem?_cons_zero, List.getElem?_cons_succ, Option.some.injEq, Prod.mk.injEq, exists_eq_left', exists_eq_left, D.int.injEq, D.bl.injEq, D.str.injEq, D.tup.injEq, D.ref.injEq, Cell.ins.injEq, List.cons.injEq, and_true, true_and, and_self, List.set_cons_zero, List.set_cons_succ, reduceCtorEq, List.map_cons, List.map_nil, List.nil_append, List.cons_append, startD, List.length_cons, List.length_nil, List.replicate, wipeD, put_same, rgD_len0, List.map_cons, List.append_nil, tyD, isiP, decide_true, decide_false, Bool.true_and, Bool.false_and, Bool.and_true, Bool.and_false, Bool.or_true, Bool.or_false, Bool.true_or, Bool.false_or, Bool.not_true, Bool.not_false, powP, minU, maxU, min2P, max2P, dgSub, dCat, dListOf, strP, decide_eq_true_eq, and_assoc, exists_and_left, exists_eq, Bool.not_eq_true', decide_eq_false_iff_not, exists_false, false_and, ↓reduceIte, Bool.false_eq_true, if_true, if_false, Int.reduceLT, Int.reduceNeg, Nat.reduceAdd])
theorem ifsI {t : DT} {A B : DS} {DD : DEnds} {ρ : Rho} {S : Sg} (h : ∀ Y N : Sg → Prop, A DD ρ = Y → B DD ρ = N → t ρ S fun b S1 => if b = true then Y S1 else N S1) : dIfS t A B DD ρ S := h _ _ rfl rfl
theorem apart {S : Sg} {r q a p : Addr} {rows : List Int} {n dl : Nat} {B cs : List Cl} (W : PoolAt S r q rows n) (hA : AucAt S a p B dl cs) : a ≠ q ∧ a ≠ r ∧ p ≠ q ∧ p ≠ r := by
  have h1 := W.r
  have h2 := W.q
  have h3 := hA.a
  have h4 := hA.p
  refine ⟨fun e => ?_, fun e => ?_, fun e => ?_, fun e => ?_⟩
  · subst e; rw [h2] at h3; cases h3
  · subst e; rw [h1] at h3; cases h3
  · subst e
    rw [h2] at h4
    cases cs with
    | nil => cases h4
    | cons c cs => cases c <;> cases h4
  · subst e
    rw [h1] at h4
    cases cs with
    | nil => cases h4
    | cons c cs => cases c <;> cases h4
theorem AucAt.other {S : Sg} {a p b : Addr} {B : List Cl} {dl : Nat} {cs : List Cl} {c : Cell} (W : AucAt S a p B dl cs) (h1 : a ≠ b) (h2 : p ≠ b) : AucAt (put S b c) a p B dl cs :=
  ⟨by rw [put_ne h1]; exact W.a, by rw [put_ne h2]; exact W.p, W.small⟩
theorem AucAt.call {S : Sg} {a p : Addr} {B : List Cl} {dl : Nat} {cs cs' : List Cl} (W : AucAt S a p B dl cs) (h : cs'.length < 1000) : AucAt (put S p (.lst (cs'.map Cl.d))) a p B dl cs' :=
  ⟨by rw [put_ne (fun e => by have h1 := W.a; rw [e, W.p] at h1; cases h1)]; exact W.a, put_same, h⟩
abbrev stA (ns : List Int) (r a : Addr) (su si dl : Nat) (y6 y7 y8 : Option D) : Rho := [some (.frz (ns.map .int)), some (.ref r), some (.int (su : Nat)), some (.int (si : Nat)), some (.int (dl : Nat)), some (.ref a), y6, y7, y8, none, none, none, none, none, none, none, none, none, none, none, none, none, none, none, none, none, none, none, none, none]
theorem m_law : ∀ ds S P, sp_law ds S P → d_lawA (DEnds.fin P) (startD ["script", "pool", "suits", "size", "dealer", "auction", "k", "legal", "pick", "calls", "texts", "places", "last", "doubled", "strain", "first", "declarer", "contract", "vulnerable", "rows", "goal", "tricks", "mine", "once", "twice", "scores", "found", "call", "text", "one"] ds) S := by
  rintro ds S P ⟨ns, rfl, hP⟩
  show d_lawA (DEnds.fin P) [some (.frz (ns.map .int)), none, none, none, none, none, none, none, none, none, none, none, none, none, none, none, none, none, none, none, none, none, none, none, none, none, none, none, none, none] S
  unfold d_lawA
  refine nxt fun N hN => ?_
  walk_at "dd"
  refine ⟨ns, rfl, fun q r rows hq hr hrq hl1 hl2 => ?_⟩
  have W0 : PoolAt (put (put S q (.lst [.int 0])) r (.lst [.lst (rows.map .int), .ref q])) r q rows 0 := ⟨put_same, by rw [put_ne (Ne.symm hrq)]; exact put_same, hl1, hl2⟩
  generalize put (put S q (.lst [.int 0])) r (.lst [.lst (rows.map .int), .ref q]) = S0 at W0 ⊢
  subst hN
  refine nxt fun N hN => ?_
  walk_at "dd"
  refine ⟨r, q, rows, 0, 4, rfl, W0, by decide, by decide, fun v v0 v4 => ?_⟩
  obtain ⟨su', rfl⟩ : ∃ m : Nat, v = (m : Nat) := ⟨v.toNat, (Int.toNat_of_nonneg v0).symm⟩
  obtain ⟨su, hsu⟩ : ∃ su, su = su' + 1 := ⟨_, rfl⟩
  have u1 : 1 ≤ su := by omega
  have u4 : su ≤ 4 := by omega
  have esu : (1 : Int) + (su' : Nat) = (su : Nat) := by omega
  have W1 := W0.draw (m := 0 + 1)
  generalize put S0 q _ = S1 at W1 ⊢
  walk_at "dd"
  rw [esu]
  subst hN
  refine nxt fun N hN => ?_
  walk_at "dd"
  refine ⟨r, q, rows, _, 13, rfl, W1, by decide, by decide, fun v w0 w4 => ?_⟩
  obtain ⟨si', rfl⟩ : ∃ m : Nat, v = (m : Nat) := ⟨v.toNat, (Int.toNat_of_nonneg w0).symm⟩
  obtain ⟨si, hsi⟩ : ∃ si, si = si' + 1 := ⟨_, rfl⟩
  have s1 : 1 ≤ si := by omega
  have s13 : si ≤ 13 := by omega
  have esi : (1 : Int) + (si' : Nat) = (si : Nat) := by omega
  have W2 := W1.draw (m := 0 + 1 + 1)
  generalize put S1 q _ = S2 at W2 ⊢
  walk_at "dd"
  rw [esi]
  subst hN
  refine nxt fun N hN => ?_
  walk_at "dd"
  refine ⟨r, q, rows, _, 4, rfl, W2, by decide, by decide, fun v d0 d4 => ?_⟩
  obtain ⟨dl, rfl⟩ : ∃ m : Nat, v = (m : Nat) := ⟨v.toNat, (Int.toNat_of_nonneg d0).symm⟩
  have W3 := W2.draw (m := 0 + 1 + 1 + 1)
  generalize put S2 q _ = S3 at W3 ⊢
  subst hN
  refine nxt fun N hN => ?_
  walk_at "dd"
  intro a ha
  have har : r ≠ a := fun e => by rw [← e, W3.r] at ha; cases ha
  have haq : q ≠ a := fun e => by rw [← e, W3.q] at ha; cases ha
  refine ⟨a, su, si, dl, rfl, put_same, u1, u4, s1, s13, fun p S4 hp hA hfr => ?_⟩
  have hrp : r ≠ p := fun e => by rw [← e, put_ne har, W3.r] at hp; cases hp
  have hqp : q ≠ p := fun e => by rw [← e, put_ne haq, W3.q] at hp; cases hp
  have W4 : PoolAt S4 r q rows 3 := ⟨by rw [hfr r har hrp, put_ne har]; exact W3.r, by rw [hfr q haq hqp, put_ne haq]; exact W3.q, hl1, hl2⟩
  walk_at "dd"
  subst hN
  obtain ⟨hU, hB36, hbid, hBf⟩ := bids_B (su := su) (top := si - si / 2) u4 (by omega)
  generalize hB : bidsL su (si - si / 2) = B at *
  have hBfit : ∀ c ∈ B, c.fits su := fun c hc => by
    obtain ⟨l, s, rfl, l1, l2, h3⟩ := hBf c hc
    exact ⟨l1, by omega, h3⟩
  refine nxtI (fun ρ S' => ∃ n cs y6 y7 y8, ρ = stA ns r a su si dl y6 y7 y8 ∧ PoolAt S' r q rows n ∧ n < 100000 ∧ AucAt S' a p B dl cs ∧ Auc B cs ∧ (∀ c ∈ cs, c.fits su) ∧ over cs = true) (fun N hN => ?_) ?_
  · simp only [dFor, dRng1, dCons, dNil, dC, List.cons.injEq, and_true, D.int.injEq, exists_eq_left']
    refine ⟨by decide, by decide, forD_inv (fun i ρ S' => ∃ n cs y6 y7 y8, ρ = stA ns r a su si dl y6 y7 y8 ∧ PoolAt S' r q rows n ∧ n ≤ 3 + 3 * i ∧ AucAt S' a p B dl cs ∧ Auc B cs ∧ (∀ c ∈ cs, c.fits su) ∧ (over cs = true ∨ i ≤ cs.length)) ⟨3, [], _, _, _, rfl, W4, by decide, hA, .op (n := 0) (by decide), fun c hc => (nomatch hc), .inr (Nat.le_refl 0)⟩ ?_ ?_⟩
    · rintro i ρ S' x N' hx ⟨n, cs, y6, y7, y8, rfl, W, hn, hA, hS, hfit, hov⟩ hN'
      obtain ⟨rfl, hi⟩ := rgD_get_inv hx
      have hlen := hS.len hB36
      refine ⟨trivial, ?_⟩
      have hA' := hA.a
      simp only [dgName, List.set_cons_succ, List.set_cons_zero, Int.zero_add]
      refine ifsI fun Y Z hY hZ => ?_
      repeat (first | walk_at "dd" | simp only [hA'])
      refine ⟨auc_mem, look_m (by decide), a, p, B, dl, cs, rfl, hA, ?_⟩
      walk_at "dd"
      by_cases ho : over cs = true
      · rw [if_neg (by rw [ho]; decide), ← hZ]
        exact hN' _ _ ⟨n, cs, _, _, _, rfl, W, by omega, hA, hS, hfit, .inl ho⟩
      have ho' : over cs = false := by cases h : over cs with | true => exact absurd h ho | false => rfl
      rw [if_pos ho', ← hY]
      clear hY hZ
      obtain ⟨low, hlow, _⟩ := hS.low hU
      have hln := legal_ne (B := B) (dl := dl) (low := low) ho'
      have hll := legal_len (cs := cs) (dl := dl) (low := low) hB36
      refine nxt fun N2 hN2 => ?_
      repeat (first | walk_at "dd" | simp only [hA'])
      refine ⟨auc_mem, look_m (by decide), a, p, B, dl, cs, low, rfl, hA, by omega, hlow, ?_⟩
      subst hN2
      obtain ⟨L, hL⟩ : ∃ L, L = legalL B dl cs low := ⟨_, rfl⟩
      rw [← hL] at hln hll ⊢
      refine nxt fun N2 hN2 => ?_
      walk_at "dd"
      subst hN2
      refine nxtI (fun ρ S2 => ∃ n2 pk : Nat, ρ = stA ns r a su si dl (some (.int (i : Nat))) (some (.lst (L.map Cl.d))) (some (.int (pk : Nat))) ∧ PoolAt S2 r q rows n2 ∧ n2 ≤ n + 3 ∧ AucAt S2 a p B dl cs) (fun N2 hN2 => ?_) ?_
      · walk_at "dd"
        refine ⟨r, q, rows, n, 3, rfl, W, by decide, by omega, fun v v0 v4 => ?_⟩
        obtain ⟨haq, har, hpq, hpr⟩ := apart W hA
        have W5 := W.draw (m := n + 1)
        have hA5 := hA.other (c := .lst [.int ((n + 1 : Nat) : Int)]) haq hpq
        generalize put S' q (.lst [.int ((n + 1 : Nat) : Int)]) = S5 at W5 hA5 ⊢
        walk_at "dd"
        by_cases c : 0 < v
        · rw [if_pos c]
          refine ⟨r, q, rows, n + 1, _, rfl, W5, by rw [List.length_map]; omega, by omega, fun v v0 v4 => ?_⟩
          obtain ⟨m1, rfl⟩ : ∃ m : Nat, v = (m : Nat) := ⟨v.toNat, (Int.toNat_of_nonneg v0).symm⟩
          have W6 := W5.draw (m := n + 1 + 1)
          have hA6 := hA5.other (c := .lst [.int ((n + 1 + 1 : Nat) : Int)]) haq hpq
          generalize put S5 q (.lst [.int ((n + 1 + 1 : Nat) : Int)]) = S6 at W6 hA6 ⊢
          refine ⟨r, q, rows, n + 1 + 1, _, rfl, W6, by decide, by omega, fun v v0 v4 => ?_⟩
          obtain ⟨m2, rfl⟩ : ∃ m : Nat, v = (m : Nat) := ⟨v.toNat, (Int.toNat_of_nonneg v0).symm⟩
          have W7 := W6.draw (m := n + 1 + 1 + 1)
          have hA7 := hA6.other (c := .lst [.int ((n + 1 + 1 + 1 : Nat) : Int)]) haq hpq
          generalize put S6 q (.lst [.int ((n + 1 + 1 + 1 : Nat) : Int)]) = S7 at W7 hA7 ⊢
          walk_at "dd"
          have em : (if (m2 : Int) < (m1 : Int) then (m2 : Int) else (m1 : Int)) = ((if m2 < m1 then m2 else m1 : Nat) : Int) := by split <;> split <;> omega
          rw [em]
          exact hN2 _ _ ⟨_, _, rfl, W7, by omega, hA7⟩
        · rw [if_neg c]
          exact hN2 _ _ ⟨_, 0, rfl, W5, by omega, hA5⟩
      rintro ρ S2 ⟨n2, pk, rfl, W', hn2, hA2⟩
      have hA2' := hA2.a
      simp only [stA]
      repeat (first | walk_at "dd" | simp only [hA2', List.length_map])
      have em : (if (L.length : Int) - 1 < (pk : Int) then (L.length : Int) - 1 else (pk : Int)) = ((if L.length - 1 < pk then L.length - 1 else pk : Nat) : Int) := by split <;> split <;> omega
      rw [em]
      obtain ⟨ix, hix⟩ : ∃ ix, ix = (if L.length - 1 < pk then L.length - 1 else pk) := ⟨_, rfl⟩
      rw [← hix]
      have hixl : ix < L.length := by rw [hix]; split <;> omega
      have hgl : L[ix]? = some L[ix] := List.getElem?_eq_getElem hixl
      have hmem : L[ix] ∈ L := List.getElem_mem hixl
      refine ⟨auc_mem, look_m (by decide), _, atI_natD (getD_map hgl), a, p, B, dl, cs, low, L[ix], rfl, hA2, by omega, hlow, ho', by rw [← hL]; exact hmem, ?_⟩
      obtain ⟨haq, har, hpq, hpr⟩ := apart W' hA2
      have hmem' : L[ix] ∈ legalL B dl cs low := by rw [← hL]; exact hmem
      refine hN' _ _ ⟨n2, cs ++ [L[ix]], _, _, _, rfl, W'.put (Ne.symm hpr) (Ne.symm hpq), by omega, hA2.call (by rw [List.length_append, List.length_singleton]; omega), hS.step hU hbid ho' hlow hmem', fun c hc => ?_, .inr ?_⟩
      · rcases List.mem_append.mp hc with h | h
        · exact hfit c h
        · rw [List.mem_singleton.mp h]
          exact legal_fits hBfit hmem'
      · rw [List.length_append, List.length_singleton]
        rcases hov with h | h
        · exact absurd h ho
        · omega
    · rintro ρ S' ⟨n, cs, y6, y7, y8, rfl, W, hn, hA, hS, hfit, hov⟩
      have hlen := hS.len hB36
      rw [rgD_len] at hn hov
      have h400 : ((400 : Int) - 0).toNat = 400 := by decide
      rw [h400] at hn hov
      exact ⟨trivial, hN _ _ ⟨n, cs, _, _, _, rfl, W, by omega, hA, hS, hfit, hov.resolve_right (by omega)⟩⟩
  · rintro ρ S' ⟨n, cs, y6, y7, y8, rfl, W, hn, hA, hS, hfit, hov⟩
    subst hB
    exact tailB W (by omega) s1 s13 u1 u4 hA hS hfit hov hP
end DL
set_option autoImplicit false
namespace F
open PySem L2 DL
abbrev d_law : DS := d_lawA
def top (i : Nat) : Stmt := PySem.Challenge.pw_finesse_k90_whole_scores_of_auctions.main.body.getD i (.Pass ⟨0, 0, 0, 0⟩)
/-- the built-in names that the text leaves as they are -/
structure Blt (mg : Str → Option Value) : Prop where
  n_range : mg "range" = none
  n_len : mg "len" = none
  n_list : mg "list" = none
  n_enumerate : mg "enumerate" = none
  n_str : mg "str" = none
  n_int : mg "int" = none
  n_max : mg "max" = none
  n_min : mg "min" = none
  n_isinstance : mg "isinstance" = none
  n_bool : mg "bool" = none
  n_tuple : mg "tuple" = none
  n_sum : mg "sum" = none
  n_sorted : mg "sorted" = none
abbrev s_side_of : Stmt := top 8
abbrev N_side_of : List Str := ["player"]
theorem sc_side_of : FnScope N_side_of ["player"] (defScope s_side_of) := ⟨rfl, rfl, rfl, by decide +kernel, rfl, by decide +kernel, by decide +kernel⟩
abbrev s_needed : Stmt := top 10
abbrev N_needed : List Str := ["size", "level"]
theorem sc_needed : FnScope N_needed ["size", "level"] (defScope s_needed) := ⟨rfl, rfl, rfl, by decide +kernel, rfl, by decide +kernel, by decide +kernel⟩
abbrev s_worth_of : Stmt := top 11
abbrev N_worth_of : List Str := ["suits", "strain"]
theorem sc_worth_of : FnScope N_worth_of ["suits", "strain"] (defScope s_worth_of) := ⟨rfl, rfl, rfl, by decide +kernel, rfl, by decide +kernel, by decide +kernel⟩
abbrev s_made_score : Stmt := top 12
abbrev N_made_score : List Str := ["suits", "size", "contract", "extra", "is_vulnerable", "level", "strain", "doubled", "_", "worth", "trick_points", "total"]
theorem sc_made_score : FnScope N_made_score ["suits", "size", "contract", "extra", "is_vulnerable"] (defScope s_made_score) := ⟨rfl, rfl, rfl, by decide +kernel, rfl, by decide +kernel, by decide +kernel⟩
abbrev s_lost_score : Stmt := top 13
abbrev N_lost_score : List Str := ["doubled", "missing", "is_vulnerable", "total", "at"]
theorem sc_lost_score : FnScope N_lost_score ["doubled", "missing", "is_vulnerable"] (defScope s_lost_score) := ⟨rfl, rfl, rfl, by decide +kernel, rfl, by decide +kernel, by decide +kernel⟩
abbrev s_score : Stmt := top 14
abbrev N_score : List Str := ["suits", "size", "contract", "tricks", "vulnerable", "level", "_", "doubled", "declarer", "extra", "is_vulnerable"]
theorem sc_score : FnScope N_score ["suits", "size", "contract", "tricks", "vulnerable"] (defScope s_score) := ⟨rfl, rfl, rfl, by decide +kernel, rfl, by decide +kernel, by decide +kernel⟩
abbrev s_score_for : Stmt := top 15
abbrev N_score_for : List Str := ["suits", "size", "contract", "tricks", "vulnerable", "side", "found"]
theorem sc_score_for : FnScope N_score_for ["suits", "size", "contract", "tricks", "vulnerable", "side"] (defScope s_score_for) := ⟨rfl, rfl, rfl, by decide +kernel, rfl, by decide +kernel, by decide +kernel⟩
abbrev s_compared : Stmt := top 16
abbrev N_compared : List Str := ["scores", "found", "own", "less", "one"]
theorem sc_compared : FnScope N_compared ["scores"] (defScope s_compared) := ⟨rfl, rfl, rfl, by decide +kernel, rfl, by decide +kernel, by decide +kernel⟩
abbrev s_bids_of : Stmt := top 22
abbrev N_bids_of : List Str := ["suits", "size", "top", "level", "strain"]
theorem sc_bids_of : FnScope N_bids_of ["suits", "size"] (defScope s_bids_of) := ⟨rfl, rfl, rfl, by decide +kernel, rfl, by decide +kernel, by decide +kernel⟩
abbrev s_Auction___init__ : Stmt := inClass (top 23) 0
abbrev N_Auction___init__ : List Str := ["self", "suits", "size", "dealer"]
theorem sc_Auction___init__ : FnScope N_Auction___init__ ["self", "suits", "size", "dealer"] (defScope s_Auction___init__) := ⟨rfl, rfl, rfl, by decide +kernel, rfl, by decide +kernel, by decide +kernel⟩
abbrev s_Auction_player_of : Stmt := inClass (top 23) 1
abbrev N_Auction_player_of : List Str := ["self", "at"]
theorem sc_Auction_player_of : FnScope N_Auction_player_of ["self", "at"] (defScope s_Auction_player_of) := ⟨rfl, rfl, rfl, by decide +kernel, rfl, by decide +kernel, by decide +kernel⟩
abbrev s_Auction_turn : Stmt := inClass (top 23) 2
abbrev N_Auction_turn : List Str := ["self"]
theorem sc_Auction_turn : FnScope N_Auction_turn ["self"] (defScope s_Auction_turn) := ⟨rfl, rfl, rfl, by decide +kernel, rfl, by decide +kernel, by decide +kernel⟩
abbrev s_Auction_calls : Stmt := inClass (top 23) 3
abbrev N_Auction_calls : List Str := ["self"]
theorem sc_Auction_calls : FnScope N_Auction_calls ["self"] (defScope s_Auction_calls) := ⟨rfl, rfl, rfl, by decide +kernel, rfl, by decide +kernel, by decide +kernel⟩
abbrev s_Auction_last : Stmt := inClass (top 23) 4
abbrev N_Auction_last : List Str := ["self", "places", "at", "call"]
theorem sc_Auction_last : FnScope N_Auction_last ["self"] (defScope s_Auction_last) := ⟨rfl, rfl, rfl, by decide +kernel, rfl, by decide +kernel, by decide +kernel⟩
abbrev s_Auction_last_bid : Stmt := inClass (top 23) 5
abbrev N_Auction_last_bid : List Str := ["self", "places", "at", "call"]
theorem sc_Auction_last_bid : FnScope N_Auction_last_bid ["self"] (defScope s_Auction_last_bid) := ⟨rfl, rfl, rfl, by decide +kernel, rfl, by decide +kernel, by decide +kernel⟩
abbrev s_Auction_is_over : Stmt := inClass (top 23) 6
abbrev N_Auction_is_over : List Str := ["self", "passes"]
theorem sc_Auction_is_over : FnScope N_Auction_is_over ["self"] (defScope s_Auction_is_over) := ⟨rfl, rfl, rfl, by decide +kernel, rfl, by decide +kernel, by decide +kernel⟩
abbrev s_Auction_legal : Stmt := inClass (top 23) 7
abbrev N_Auction_legal : List Str := ["self", "last", "found", "at", "lowest"]
theorem sc_Auction_legal : FnScope N_Auction_legal ["self"] (defScope s_Auction_legal) := ⟨rfl, rfl, rfl, by decide +kernel, rfl, by decide +kernel, by decide +kernel⟩
abbrev s_Auction_call : Stmt := inClass (top 23) 8
abbrev N_Auction_call : List Str := ["self", "call"]
theorem sc_Auction_call : FnScope N_Auction_call ["self", "call"] (defScope s_Auction_call) := ⟨rfl, rfl, rfl, by decide +kernel, rfl, by decide +kernel, by decide +kernel⟩
abbrev s_Auction_contract : Stmt := inClass (top 23) 9
abbrev N_Auction_contract : List Str := ["self", "at", "_", "level", "strain", "doubled", "side", "place", "call"]
theorem sc_Auction_contract : FnScope N_Auction_contract ["self"] (defScope s_Auction_contract) := ⟨rfl, rfl, rfl, by decide +kernel, rfl, by decide +kernel, by decide +kernel⟩
abbrev s_call_text : Stmt := top 24
abbrev N_call_text : List Str := ["suits", "call"]
theorem sc_call_text : FnScope N_call_text ["suits", "call"] (defScope s_call_text) := ⟨rfl, rfl, rfl, by decide +kernel, rfl, by decide +kernel, by decide +kernel⟩
abbrev s_read_call : Stmt := top 25
abbrev N_read_call : List Str := ["suits", "text", "strain", "digits", "wrong", "level", "char"]
theorem sc_read_call : FnScope N_read_call ["suits", "text"] (defScope s_read_call) := ⟨rfl, rfl, rfl, by decide +kernel, rfl, by decide +kernel, by decide +kernel⟩
abbrev s__law_cell : Stmt := top 27
abbrev N__law_cell : List Str := ["script", "k"]
theorem sc__law_cell : FnScope N__law_cell ["script", "k"] (defScope s__law_cell) := ⟨rfl, rfl, rfl, by decide +kernel, rfl, by decide +kernel, by decide +kernel⟩
abbrev s__law_numbers : Stmt := top 28
abbrev N__law_numbers : List Str := ["cell", "many", "rows", "left", "k", "mixed"]
theorem sc__law_numbers : FnScope N__law_numbers ["cell", "many"] (defScope s__law_numbers) := ⟨rfl, rfl, rfl, by decide +kernel, rfl, by decide +kernel, by decide +kernel⟩
abbrev s__law_pool : Stmt := top 29
abbrev N__law_pool : List Str := ["script", "rows", "k"]
theorem sc__law_pool : FnScope N__law_pool ["script"] (defScope s__law_pool) := ⟨rfl, rfl, rfl, by decide +kernel, rfl, by decide +kernel, by decide +kernel⟩
abbrev s__law_draw : Stmt := top 30
abbrev N__law_draw : List Str := ["pool", "many", "at", "turn"]
theorem sc__law_draw : FnScope N__law_draw ["pool", "many"] (defScope s__law_draw) := ⟨rfl, rfl, rfl, by decide +kernel, rfl, by decide +kernel, by decide +kernel⟩
abbrev s__law_kind : Stmt := top 31
abbrev N__law_kind : List Str := ["x"]
theorem sc__law_kind : FnScope N__law_kind ["x"] (defScope s__law_kind) := ⟨rfl, rfl, rfl, by decide +kernel, rfl, by decide +kernel, by decide +kernel⟩
abbrev s__law_equal : Stmt := top 32
abbrev N__law_equal : List Str := ["x", "due", "k"]
theorem sc__law_equal : FnScope N__law_equal ["x", "due"] (defScope s__law_equal) := ⟨rfl, rfl, rfl, by decide +kernel, rfl, by decide +kernel, by decide +kernel⟩
abbrev s__law_call : Stmt := top 33
abbrev N__law_call : List Str := ["suits", "call"]
theorem sc__law_call : FnScope N__law_call ["suits", "call"] (defScope s__law_call) := ⟨rfl, rfl, rfl, by decide +kernel, rfl, by decide +kernel, by decide +kernel⟩
abbrev s_law : Stmt := top 34
abbrev N_law : List Str := ["script", "pool", "suits", "size", "dealer", "auction", "k", "legal", "pick", "calls", "texts", "places", "last", "doubled", "strain", "first", "declarer", "contract", "vulnerable", "rows", "goal", "tricks", "mine", "once", "twice", "scores", "found", "call", "text", "one"]
theorem sc_law : FnScope N_law ["script"] (defScope s_law) := ⟨rfl, rfl, rfl, by decide +kernel, rfl, by decide +kernel, by decide +kernel⟩
section
variable {P : Program} {w : World} {K : PySem.W.Frag} {mg : Str → Option Value} {base : Heap}
theorem b_side_of {f : Addr}  : Body P w K mg base 0 N_side_of "side_of" s_side_of f d_side_of := fun cdv A outer s H E hr => by
  have nd : N_side_of.Nodup := sc_side_of.nd
  exact ⟨_, (jss_one (js_ret (je_op op_mod lo_mod (je_var 0) je_int)))⟩
theorem b_needed {f : Addr}  : Body P w K mg base 0 N_needed "needed" s_needed f d_needed := fun cdv A outer s H E hr => by
  have nd : N_needed.Nodup := sc_needed.nd
  exact ⟨_, (jss_one (js_ret (je_op (op_addU (K := K)) lo_add (je_op op_fdiv lo_fdiv (je_var 0) je_int) (je_var 1))))⟩
theorem b_worth_of {f : Addr}  : Body P w K mg base 0 N_worth_of "worth_of" s_worth_of f d_worth_of := fun cdv A outer s H E hr => by
  have nd : N_worth_of.Nodup := sc_worth_of.nd
  exact ⟨_, (jss_one (js_ret (je_ifExp (jt_cmp op_lt lo_lt (je_var 1) (je_op op_fdiv lo_fdiv (je_var 0) je_int) (nomark _)) je_int je_int)))⟩
theorem b_made_score {f : Addr} (c_worth_of : FnT P w K mg base 1 "worth_of" sp_worth_of) : Body P w K mg base 1 N_made_score "made_score" s_made_score f d_made_score := fun cdv A outer s H E hr => by
  have nd : N_made_score.Nodup := sc_made_score.nd
  exact ⟨_, (jss_cons (js_asg (je_var 2) (jg_tup (K := K) (by rfl) (jgs_cons (jg_name (i := 5) nd) (jgs_cons (jg_name (i := 6) nd) (jgs_cons (jg_name (i := 7) nd) (jgs_cons (jg_name (i := 8) nd) jgs_nil)))) (len_cons (len_cons (len_cons (len_cons len_nil)))))) (jss_cons (js_set (i := 9) (je_call (K := K) c_worth_of hr (by decide) (by rfl) (ja_cons (je_var 0) (ja_cons (je_var 6) ja_nil))) nd) (jss_cons (js_set (i := 10) (je_op op_mul lo_mul (je_op (op_addU (K := K)) lo_add (je_op op_mul lo_mul (je_var 5) (je_var 9)) (je_ifExp (jt_cmp (op_eqU (K := K) hr) lo_eq (je_var 6) (je_var 0) (nomark _)) je_int je_int)) (je_ix (K := K) hr (je_tup (ja_cons je_int (ja_cons je_int (ja_cons je_int ja_nil)))) (je_var 7) (fun _ _ => rfl))) nd) (jss_cons (js_set (i := 11) (je_var 10) nd) (jss_cons (js_if (jt_cmp op_lt lo_lt (je_var 10) je_int (nomark _)) (jss_one (js_aug (i := 11) je_int nd iop_add lo_iadd)) (jss_one (js_aug (i := 11) (je_ifExp (jt_val (je_var 4)) je_int je_int) nd iop_add lo_iadd))) (jss_cons (js_if (jt_w (jw_and (jt_cmp op_ge lo_ge (je_var 1) je_int (nomark _)) (jw_and1 (jt_cmp (op_eqU (K := K) hr) lo_eq (je_var 5) (je_op op_sub lo_sub (je_var 1) (je_op op_fdiv lo_fdiv (je_var 1) je_int)) (nomark _))))) (jss_one (js_aug (i := 11) (je_ifExp (jt_val (je_var 4)) je_int je_int) nd iop_add lo_iadd)) jss_nil) (jss_cons (js_aug (i := 11) (je_op op_mul lo_mul je_int (je_var 7)) nd iop_add lo_iadd) (jss_cons (js_if (jt_cmp op_gt lo_gt (je_var 7) je_int (nomark _)) (jss_one (js_set (i := 9) (je_op op_mul lo_mul (je_op op_mul lo_mul je_int (je_var 7)) (je_ifExp (jt_val (je_var 4)) je_int je_int)) nd)) jss_nil) (jss_one (js_ret (je_op (op_addU (K := K)) lo_add (je_var 11) (je_op op_mul lo_mul (je_var 3) (je_var 9)))))))))))))⟩
theorem b_lost_score {f : Addr} (B : Blt mg) : Body P w K mg base 0 N_lost_score "lost_score" s_lost_score f d_lost_score := fun cdv A outer s H E hr => by
  have nd : N_lost_score.Nodup := sc_lost_score.nd
  exact ⟨_, (jss_cons (js_if (jt_cmp (op_eqU (K := K) hr) lo_eq (je_var 0) je_int (nomark _)) (jss_one (js_ret (je_op op_mul lo_mul (je_var 1) (je_ifExp (jt_val (je_var 2)) je_int je_int)))) jss_nil) (jss_cons (js_set (i := 3) je_int nd) (jss_cons (js_for PassesOwn.never rfl (ji_range1 (by rfl) B.n_range (ja_cons (je_var 1) ja_nil)) (jg_name (i := 4) nd) (jss_one (js_if (jt_val (je_var 2)) (jss_one (js_aug (i := 3) (je_ifExp (jt_cmp (op_eqU (K := K) hr) lo_eq (je_var 4) je_int (nomark _)) je_int je_int) nd iop_add lo_iadd)) (jss_one (js_aug (i := 3) (je_ifExp (jt_cmp (op_eqU (K := K) hr) lo_eq (je_var 4) je_int (nomark _)) je_int (je_ifExp (jt_cmp op_lt lo_lt (je_var 4) je_int (nomark _)) je_int je_int)) nd iop_add lo_iadd))))) (jss_one (js_ret (je_op op_mul lo_mul (je_var 3) (je_var 0)))))))⟩
theorem b_score {f : Addr} (c_needed : FnT P w K mg base 1 "needed" sp_needed) (c_side_of : FnT P w K mg base 1 "side_of" sp_side_of) (c_made_score : FnT P w K mg base 2 "made_score" sp_made_score) (c_lost_score : FnT P w K mg base 1 "lost_score" sp_lost_score) : Body P w K mg base 2 N_score "score" s_score f d_score := fun cdv A outer s H E hr => by
  have nd : N_score.Nodup := sc_score.nd
  exact ⟨_, (jss_cons (js_if (jt_cmp op_isN lo_isN (je_var 2) je_non (nomark _)) (jss_one (js_ret je_int)) jss_nil) (jss_cons (js_asg (je_var 2) (jg_tup (K := K) (by rfl) (jgs_cons (jg_name (i := 5) nd) (jgs_cons (jg_name (i := 6) nd) (jgs_cons (jg_name (i := 7) nd) (jgs_cons (jg_name (i := 8) nd) jgs_nil)))) (len_cons (len_cons (len_cons (len_cons len_nil)))))) (jss_cons (js_set (i := 9) (je_op op_sub lo_sub (je_var 3) (je_call (K := K) c_needed hr (by decide) (by rfl) (ja_cons (je_var 1) (ja_cons (je_var 5) ja_nil)))) nd) (jss_cons (js_set (i := 10) (je_ix (K := K) hr (je_var 4) (je_call (K := K) c_side_of hr (by decide) (by rfl) (ja_cons (je_var 8) ja_nil)) (fun _ _ => rfl)) nd) (jss_cons (js_if (jt_cmp op_ge lo_ge (je_var 9) je_int (nomark _)) (jss_one (js_ret (je_call (K := K) c_made_score hr (by decide) (by rfl) (ja_cons (je_var 0) (ja_cons (je_var 1) (ja_cons (je_var 2) (ja_cons (je_var 9) (ja_cons (je_var 10) ja_nil)))))))) jss_nil) (jss_one (js_ret (je_un un_neg lo_neg (je_call (K := K) c_lost_score hr (by decide) (by rfl) (ja_cons (je_var 7) (ja_cons (je_un un_neg lo_neg (je_var 9)) (ja_cons (je_var 10) ja_nil))))))))))))⟩
theorem b_score_for {f : Addr} (c_score : FnT P w K mg base 3 "score" sp_score) (c_side_of : FnT P w K mg base 1 "side_of" sp_side_of) : Body P w K mg base 3 N_score_for "score_for" s_score_for f d_score_for := fun cdv A outer s H E hr => by
  have nd : N_score_for.Nodup := sc_score_for.nd
  exact ⟨_, (jss_cons (js_set (i := 6) (je_call (K := K) c_score hr (by decide) (by rfl) (ja_cons (je_var 0) (ja_cons (je_var 1) (ja_cons (je_var 2) (ja_cons (je_var 3) (ja_cons (je_var 4) ja_nil)))))) nd) (jss_cons (js_if (jt_cmp op_isN lo_isN (je_var 2) je_non (nomark _)) (jss_one (js_ret je_int)) jss_nil) (jss_one (js_ret (je_ifExp (jt_cmp (op_eqU (K := K) hr) lo_eq (je_call (K := K) c_side_of hr (by decide) (by rfl) (ja_cons (je_ix (K := K) hr (je_var 2) je_int (fun _ _ => rfl)) ja_nil)) (je_var 5) (nomark _)) (je_var 6) (je_un un_neg lo_neg (je_var 6)))))))⟩
theorem b_compared {f : Addr} (B : Blt mg) : Body P w K mg base 0 N_compared "compared" s_compared f d_compared := fun cdv A outer s H E hr => by
  have nd : N_compared.Nodup := sc_compared.nd
  exact ⟨_, (jss_cons (js_set (i := 1) (JL.cl (jl_lst ja_nil)) nd) (jss_cons (js_for PassesOwn.never rfl (ji_any (K := K) (je_var 0)) (jg_name (i := 2) nd) (jss_cons (js_set (i := 3) (je_callB (cb_len (K := K)) lc_len (by rfl) B.n_len bt_len (ja_cons (JL.vl (jl_lc (own := [("one", 4)]) rfl nd (ji_any (K := K) (je_var 0)) (blkOk_by (own := [("one", 4)]) (N := N_compared) (sc := defScope s_compared) (by decide +kernel)) (own_name (by decide)) (fun _ _ _ _ _ => (jg_name (i := 4) nd)) (fun _ _ _ _ _ => (jts_one (jt_cmp op_lt lo_lt (je_var 4) (je_var 2) (nomark _)))) (fun _ _ _ _ _ => (je_var 4)))) ja_nil)) nd) (jss_one (js_expr (je_bm (K := K) PySem.F.plainAttrs_list PySem.F.slot_list_append PySem.F.type_list_append mt_append okT_L lm_append (je_var 1) (ja_cons (je_op op_sub lo_sub (je_op (op_addU (K := K)) lo_add (je_op op_mul lo_mul je_int (je_var 3)) (je_callB (cb_len (K := K)) lc_len (by rfl) B.n_len bt_len (ja_cons (JL.vl (jl_lc (own := [("one", 4)]) rfl nd (ji_any (K := K) (je_var 0)) (blkOk_by (own := [("one", 4)]) (N := N_compared) (sc := defScope s_compared) (by decide +kernel)) (own_name (by decide)) (fun _ _ _ _ _ => (jg_name (i := 4) nd)) (fun _ _ _ _ _ => (jts_one (jt_cmp (op_eqU (K := K) hr) lo_eq (je_var 4) (je_var 2) (nomark _)))) (fun _ _ _ _ _ => (je_var 4)))) ja_nil))) je_int) ja_nil)))))) (jss_one (js_retF (je_var 1)))))⟩
theorem b_bids_of {f : Addr} (B : Blt mg) : Body P w K mg base 0 N_bids_of "bids_of" s_bids_of f d_bids_of := fun cdv A outer s H E hr => by
  have nd : N_bids_of.Nodup := sc_bids_of.nd
  exact ⟨_, (jss_cons (js_set (i := 2) (je_op op_sub lo_sub (je_var 1) (je_op op_fdiv lo_fdiv (je_var 1) je_int)) nd) (jss_one (js_ret (JL.vl (jl_lc2 (own := [("level", 3), ("strain", 4)]) (vs1 := [4]) rfl nd (ji_range2 (by rfl) B.n_range (ja_cons je_int (ja_cons (je_op (op_addU (K := K)) lo_add (je_var 2) je_int) ja_nil))) (blkOk_by (own := [("level", 3), ("strain", 4)]) (N := N_bids_of) (sc := defScope s_bids_of) (by decide +kernel)) (by decide) (own_name (by decide)) (own_name (by decide)) (fun _ _ _ _ _ => (jg_name (i := 3) nd)) (fun _ _ _ _ _ => jts_nil) (fun _ _ _ _ _ => (ji_range1 (by rfl) B.n_range (ja_cons (je_op (op_addU (K := K)) lo_add (je_var 0) je_int) ja_nil))) (fun _ _ _ _ _ => (jg_name (i := 4) nd)) (fun _ _ _ _ _ => jts_nil) (fun _ _ _ _ _ => (je_tup (ja_cons je_str (ja_cons (je_var 3) (ja_cons (je_var 4) ja_nil))))))))))⟩
theorem b_Auction___init__ {f : Addr} (c_bids_of : FnT P w K mg base 1 "bids_of" sp_bids_of) (fo_Auction___bids : FldOk K ["Auction"] "_bids") (fo_Auction___dealer : FldOk K ["Auction"] "_dealer") (fo_Auction___calls : FldOk K ["Auction"] "_calls") : Body P w K mg base 1 N_Auction___init__ "Auction.__init__" s_Auction___init__ f d_Auction___init__ := fun cdv A outer s H E hr => by
  have nd : N_Auction___init__.Nodup := sc_Auction___init__.nd
  exact ⟨_, (jss_cons (js_fld fo_Auction___bids (je_var 0) (je_call (K := K) c_bids_of hr (by decide) (by rfl) (ja_cons (je_var 1) (ja_cons (je_var 2) ja_nil)))) (jss_cons (js_fld fo_Auction___dealer (je_var 0) (je_var 3)) (jss_one (js_fld fo_Auction___calls (je_var 0) (JL.cl (jl_lst ja_nil))))))⟩
theorem b_Auction_player_of {f : Addr} (fo_Auction___dealer : FldOk K ["Auction"] "_dealer") : Body P w K mg base 0 N_Auction_player_of "Auction.player_of" s_Auction_player_of f d_Auction_player_of := fun cdv A outer s H E hr => by
  have nd : N_Auction_player_of.Nodup := sc_Auction_player_of.nd
  exact ⟨_, (jss_one (js_ret (je_op op_mod lo_mod (je_op (op_addU (K := K)) lo_add (je_fld (K := K) fo_Auction___dealer (je_var 0)) (je_var 1)) je_int)))⟩
theorem b_Auction_turn {f : Addr} (t_Auction_player_of : MtT P w K mg base 1 ["Auction"] "player_of" sp_Auction_player_of) (fo_Auction___calls : FldOk K ["Auction"] "_calls") (B : Blt mg) : Body P w K mg base 1 N_Auction_turn "Auction.turn" s_Auction_turn f d_Auction_turn := fun cdv A outer s H E hr => by
  have nd : N_Auction_turn.Nodup := sc_Auction_turn.nd
  exact ⟨_, (jss_one (js_ret (je_meth (K := K) t_Auction_player_of hr (by decide) (je_var 0) (ja_cons (je_callB (cb_len (K := K)) lc_len (by rfl) B.n_len bt_len (ja_cons (je_fld (K := K) fo_Auction___calls (je_var 0)) ja_nil)) ja_nil))))⟩
theorem b_Auction_calls {f : Addr} (fo_Auction___calls : FldOk K ["Auction"] "_calls") (B : Blt mg) : Body P w K mg base 0 N_Auction_calls "Auction.calls" s_Auction_calls f d_Auction_calls := fun cdv A outer s H E hr => by
  have nd : N_Auction_calls.Nodup := sc_Auction_calls.nd
  exact ⟨_, (jss_one (js_ret (JL.vl (jl_listOf (K := K) (by rfl) B.n_list (ja_cons (je_fld (K := K) fo_Auction___calls (je_var 0)) ja_nil)))))⟩
theorem b_Auction_last {f : Addr} (fo_Auction___calls : FldOk K ["Auction"] "_calls") (g_PASS : GlobD K mg "PASS" v_PASS) (B : Blt mg) : Body P w K mg base 0 N_Auction_last "Auction.last" s_Auction_last f d_Auction_last := fun cdv A outer s H E hr => by
  have nd : N_Auction_last.Nodup := sc_Auction_last.nd
  exact ⟨_, (jss_cons (JLS.v (jls_lc (own := [("at", 2), ("call", 3)]) rfl nd (ji_enum (K := K) (by rfl) B.n_enumerate (ja_cons (je_fld (K := K) fo_Auction___calls (je_var 0)) ja_nil)) (blkOk_by (own := [("at", 2), ("call", 3)]) (N := N_Auction_last) (sc := defScope s_Auction_last) (by decide +kernel)) (own_tup (own_cons (own_name (by decide)) (own_cons (own_name (by decide)) own_nil))) (fun _ _ _ _ _ => (jg_tup (K := K) (by rfl) (jgs_cons (jg_name (i := 2) nd) (jgs_cons (jg_name (i := 3) nd) jgs_nil)) (len_cons (len_cons len_nil)))) (fun _ _ _ _ _ => (jts_one (jt_cmp (op_neU (K := K) hr) lo_ne (je_var 3) (je_glob (K := K) (by rfl) g_PASS) (nomark _)))) (fun _ _ _ _ _ => (je_var 2)) rfl (sw_true rfl rfl rfl (by decide +kernel)))) (jss_one (js_ret (je_ifExp (jt_cmp op_gt lo_gt (je_callB (cb_len (K := K)) lc_len (by rfl) B.n_len bt_len (ja_cons (je_var 1) ja_nil)) je_int (nomark _)) (je_ix (K := K) hr (je_var 1) (je_un un_neg lo_neg je_int) (fun _ _ => rfl)) (je_un un_neg lo_neg je_int)))))⟩
theorem b_Auction_last_bid {f : Addr} (fo_Auction___calls : FldOk K ["Auction"] "_calls") (B : Blt mg) : Body P w K mg base 0 N_Auction_last_bid "Auction.last_bid" s_Auction_last_bid f d_Auction_last_bid := fun cdv A outer s H E hr => by
  have nd : N_Auction_last_bid.Nodup := sc_Auction_last_bid.nd
  exact ⟨_, (jss_cons (JLS.v (jls_lc (own := [("at", 2), ("call", 3)]) rfl nd (ji_enum (K := K) (by rfl) B.n_enumerate (ja_cons (je_fld (K := K) fo_Auction___calls (je_var 0)) ja_nil)) (blkOk_by (own := [("at", 2), ("call", 3)]) (N := N_Auction_last_bid) (sc := defScope s_Auction_last_bid) (by decide +kernel)) (own_tup (own_cons (own_name (by decide)) (own_cons (own_name (by decide)) own_nil))) (fun _ _ _ _ _ => (jg_tup (K := K) (by rfl) (jgs_cons (jg_name (i := 2) nd) (jgs_cons (jg_name (i := 3) nd) jgs_nil)) (len_cons (len_cons len_nil)))) (fun _ _ _ _ _ => (jts_one (jt_cmp (op_eqU (K := K) hr) lo_eq (je_ix (K := K) hr (je_var 3) je_int (fun _ _ => rfl)) je_str (nomark _)))) (fun _ _ _ _ _ => (je_var 2)) rfl (sw_true rfl rfl rfl (by decide +kernel)))) (jss_one (js_ret (je_ifExp (jt_cmp op_gt lo_gt (je_callB (cb_len (K := K)) lc_len (by rfl) B.n_len bt_len (ja_cons (je_var 1) ja_nil)) je_int (nomark _)) (je_ix (K := K) hr (je_var 1) (je_un un_neg lo_neg je_int) (fun _ _ => rfl)) (je_un un_neg lo_neg je_int)))))⟩
theorem b_Auction_is_over {f : Addr} (t_Auction_last : MtT P w K mg base 1 ["Auction"] "last" sp_Auction_last) (fo_Auction___calls : FldOk K ["Auction"] "_calls") (B : Blt mg) : Body P w K mg base 1 N_Auction_is_over "Auction.is_over" s_Auction_is_over f d_Auction_is_over := fun cdv A outer s H E hr => by
  have nd : N_Auction_is_over.Nodup := sc_Auction_is_over.nd
  exact ⟨_, (jss_cons (js_set (i := 1) (je_op op_sub lo_sub (je_op op_sub lo_sub (je_callB (cb_len (K := K)) lc_len (by rfl) B.n_len bt_len (ja_cons (je_fld (K := K) fo_Auction___calls (je_var 0)) ja_nil)) je_int) (je_meth0 (K := K) t_Auction_last hr (by decide) (je_var 0))) nd) (jss_one (js_ret (je_or (je_cmp op_ge lo_ge (je_var 1) je_int (nomark _)) (je_one (je_and (je_cmp (op_eqU (K := K) hr) lo_eq (je_var 1) je_int (nomark _)) (je_one (je_cmp op_ge lo_ge (je_meth0 (K := K) t_Auction_last hr (by decide) (je_var 0)) je_int (nomark _)))))))))⟩
theorem b_Auction_legal {f : Addr} (t_Auction_is_over : MtT P w K mg base 2 ["Auction"] "is_over" sp_Auction_is_over) (t_Auction_last : MtT P w K mg base 1 ["Auction"] "last" sp_Auction_last) (c_side_of : FnT P w K mg base 1 "side_of" sp_side_of) (t_Auction_player_of : MtT P w K mg base 1 ["Auction"] "player_of" sp_Auction_player_of) (t_Auction_turn : MtT P w K mg base 2 ["Auction"] "turn" sp_Auction_turn) (t_Auction_last_bid : MtT P w K mg base 1 ["Auction"] "last_bid" sp_Auction_last_bid) (fo_Auction___calls : FldOk K ["Auction"] "_calls") (fo_Auction___bids : FldOk K ["Auction"] "_bids") (g_PASS : GlobD K mg "PASS" v_PASS) (g_DOUBLE : GlobD K mg "DOUBLE" v_DOUBLE) (g_REDOUBLE : GlobD K mg "REDOUBLE" v_REDOUBLE) : Body P w K mg base 2 N_Auction_legal "Auction.legal" s_Auction_legal f d_Auction_legal := fun cdv A outer s H E hr => by
  have nd : N_Auction_legal.Nodup := sc_Auction_legal.nd
  exact ⟨_, (jss_cons (js_if (jt_val (je_meth0 (K := K) t_Auction_is_over hr (by decide) (je_var 0))) (jss_one (js_retW (JL.vl (jl_lst ja_nil)))) jss_nil) (jss_cons (js_set (i := 1) (je_meth0 (K := K) t_Auction_last hr (by decide) (je_var 0)) nd) (jss_cons (js_set (i := 2) (JL.cl (jl_lst (ja_cons (je_glob (K := K) (by rfl) g_PASS) ja_nil))) nd) (jss_cons (js_if (jt_w (jw_and (jt_cmp op_ge lo_ge (je_var 1) je_int (nomark _)) (jw_and1 (jt_cmp (op_neU (K := K) hr) lo_ne (je_call (K := K) c_side_of hr (by decide) (by rfl) (ja_cons (je_meth (K := K) t_Auction_player_of hr (by decide) (je_var 0) (ja_cons (je_var 1) ja_nil)) ja_nil)) (je_call (K := K) c_side_of hr (by decide) (by rfl) (ja_cons (je_meth0 (K := K) t_Auction_turn hr (by decide) (je_var 0)) ja_nil)) (nomark _))))) (jss_cons (js_if (jt_cmp (op_eqU (K := K) hr) lo_eq (je_ix (K := K) hr (je_ix (K := K) hr (je_fld (K := K) fo_Auction___calls (je_var 0)) (je_var 1) (fun _ _ => rfl)) je_int (fun _ _ => rfl)) je_str (nomark _)) (jss_one (js_expr (je_bm (K := K) PySem.F.plainAttrs_list PySem.F.slot_list_append PySem.F.type_list_append mt_append okT_L lm_append (je_var 2) (ja_cons (je_glob (K := K) (by rfl) g_DOUBLE) ja_nil)))) jss_nil) (jss_one (js_if (jt_cmp (op_eqU (K := K) hr) lo_eq (je_ix (K := K) hr (je_fld (K := K) fo_Auction___calls (je_var 0)) (je_var 1) (fun _ _ => rfl)) (je_glob (K := K) (by rfl) g_DOUBLE) (nomark _)) (jss_one (js_expr (je_bm (K := K) PySem.F.plainAttrs_list PySem.F.slot_list_append PySem.F.type_list_append mt_append okT_L lm_append (je_var 2) (ja_cons (je_glob (K := K) (by rfl) g_REDOUBLE) ja_nil)))) jss_nil))) jss_nil) (jss_cons (js_set (i := 3) (je_meth0 (K := K) t_Auction_last_bid hr (by decide) (je_var 0)) nd) (jss_cons (js_set (i := 4) (je_ifExp (jt_cmp op_lt lo_lt (je_var 3) je_int (nomark _)) je_int (je_op (op_addU (K := K)) lo_add (je_bm (K := K) PySem.F.plainAttrs_list PySem.F.slot_list_index PySem.F.type_list_index (mt_indexK (K := K) hr) okT_L lm_index (je_fld (K := K) fo_Auction___bids (je_var 0)) (ja_cons (je_ix (K := K) hr (je_fld (K := K) fo_Auction___calls (je_var 0)) (je_var 3) (fun _ _ => rfl)) ja_nil)) je_int)) nd) (jss_one (js_retW (je_op (op_addU (K := K)) lo_add (je_var 2) (je_slice (K := K) (je_fld (K := K) fo_Auction___bids (je_var 0)) (jo_some (je_var 4)) jo_none))))))))))⟩
theorem b_Auction_call {f : Addr} (t_Auction_is_over : MtT P w K mg base 2 ["Auction"] "is_over" sp_Auction_is_over) (t_Auction_legal : MtT P w K mg base 3 ["Auction"] "legal" sp_Auction_legal) (fo_Auction___calls : FldOk K ["Auction"] "_calls") : Body P w K mg base 3 N_Auction_call "Auction.call" s_Auction_call f d_Auction_call := fun cdv A outer s H E hr => by
  have nd : N_Auction_call.Nodup := sc_Auction_call.nd
  exact ⟨_, (jss_cons (js_if (jt_val (je_meth0 (K := K) t_Auction_is_over hr (by decide) (je_var 0))) (jss_one js_never) jss_nil) (jss_cons (js_if (jt_cmp (op_notInU (K := K) hr) lo_notin (je_var 1) (je_meth0 (K := K) t_Auction_legal hr (by decide) (je_var 0)) rfl) (jss_one js_never) jss_nil) (jss_one (js_expr (je_bm (K := K) PySem.F.plainAttrs_list PySem.F.slot_list_append PySem.F.type_list_append mt_append okT_L lm_append (je_fld (K := K) fo_Auction___calls (je_var 0)) (ja_cons (je_var 1) ja_nil))))))⟩
theorem b_Auction_contract {f : Addr} (t_Auction_is_over : MtT P w K mg base 2 ["Auction"] "is_over" sp_Auction_is_over) (t_Auction_last_bid : MtT P w K mg base 1 ["Auction"] "last_bid" sp_Auction_last_bid) (t_Auction_last : MtT P w K mg base 1 ["Auction"] "last" sp_Auction_last) (c_side_of : FnT P w K mg base 1 "side_of" sp_side_of) (t_Auction_player_of : MtT P w K mg base 1 ["Auction"] "player_of" sp_Auction_player_of) (fo_Auction___calls : FldOk K ["Auction"] "_calls") (B : Blt mg) : Body P w K mg base 2 N_Auction_contract "Auction.contract" s_Auction_contract f d_Auction_contract := fun cdv A outer s H E hr => by
  have nd : N_Auction_contract.Nodup := sc_Auction_contract.nd
  exact ⟨_, (jss_cons (js_if (jt_not (jt_val (je_meth0 (K := K) t_Auction_is_over hr (by decide) (je_var 0)))) (jss_one js_never) jss_nil) (jss_cons (js_set (i := 1) (je_meth0 (K := K) t_Auction_last_bid hr (by decide) (je_var 0)) nd) (jss_cons (js_if (jt_cmp op_lt lo_lt (je_var 1) je_int (nomark _)) (jss_one (js_retW je_non)) jss_nil) (jss_cons (js_asg (je_ix (K := K) hr (je_fld (K := K) fo_Auction___calls (je_var 0)) (je_var 1) (fun _ _ => rfl)) (jg_tup (K := K) (by rfl) (jgs_cons (jg_name (i := 2) nd) (jgs_cons (jg_name (i := 3) nd) (jgs_cons (jg_name (i := 4) nd) jgs_nil))) (len_cons (len_cons (len_cons len_nil))))) (jss_cons (js_set (i := 5) (je_ix (K := K) hr (je_disp (jps_cons je_str je_int (jps_cons je_str je_int (jps_cons je_str je_int jps_nil)))) (je_ix (K := K) hr (je_ix (K := K) hr (je_fld (K := K) fo_Auction___calls (je_var 0)) (je_meth0 (K := K) t_Auction_last hr (by decide) (je_var 0)) (fun _ _ => rfl)) je_int (fun _ _ => rfl)) (fun _ _ => rfl)) nd) (jss_cons (js_set (i := 6) (je_call (K := K) c_side_of hr (by decide) (by rfl) (ja_cons (je_meth (K := K) t_Auction_player_of hr (by decide) (je_var 0) (ja_cons (je_var 1) ja_nil)) ja_nil)) nd) (jss_cons (js_for PassesOwn.never rfl (ji_enum (K := K) (by rfl) B.n_enumerate (ja_cons (je_fld (K := K) fo_Auction___calls (je_var 0)) ja_nil)) (jg_tup (K := K) (by rfl) (jgs_cons (jg_name (i := 7) nd) (jgs_cons (jg_name (i := 8) nd) jgs_nil)) (len_cons (len_cons len_nil))) (jss_one (js_if (jt_w (jw_and (jt_cmp (op_eqU (K := K) hr) lo_eq (je_ix (K := K) hr (je_var 8) je_int (fun _ _ => rfl)) je_str (nomark _)) (jw_and (jt_cmp (op_eqU (K := K) hr) lo_eq (je_ix (K := K) hr (je_var 8) je_int (fun _ _ => rfl)) (je_var 4) (nomark _)) (jw_and1 (jt_cmp (op_eqU (K := K) hr) lo_eq (je_call (K := K) c_side_of hr (by decide) (by rfl) (ja_cons (je_meth (K := K) t_Auction_player_of hr (by decide) (je_var 0) (ja_cons (je_var 7) ja_nil)) ja_nil)) (je_var 6) (nomark _)))))) (jss_one (js_retW (je_tup (ja_cons (je_var 3) (ja_cons (je_var 4) (ja_cons (je_var 5) (ja_cons (je_meth (K := K) t_Auction_player_of hr (by decide) (je_var 0) (ja_cons (je_var 7) ja_nil)) ja_nil))))))) jss_nil))) (jss_one (js_retW je_non)))))))))⟩
theorem b_call_text {f : Addr} (g_LETTERS : GlobD K mg "LETTERS" v_LETTERS) (B : Blt mg) : Body P w K mg base 0 N_call_text "call_text" s_call_text f d_call_text := fun cdv A outer s H E hr => by
  have nd : N_call_text.Nodup := sc_call_text.nd
  exact ⟨_, (jss_cons (js_if (jt_cmp (op_eqU (K := K) hr) lo_eq (je_ix (K := K) hr (je_var 1) je_int (fun _ _ => rfl)) je_str (nomark _)) (jss_one (js_retW (je_op (op_addU (K := K)) lo_add (je_callTy call_str_int lc_str (by rfl) B.n_str bt_str (ja_cons (je_ix (K := K) hr (je_var 1) je_int (fun _ _ => rfl)) ja_nil)) (je_ifExp (jt_cmp (op_eqU (K := K) hr) lo_eq (je_ix (K := K) hr (je_var 1) je_int (fun _ _ => rfl)) (je_var 0) (nomark _)) je_str (je_ix (K := K) hr (je_glob (K := K) (by rfl) g_LETTERS) (je_ix (K := K) hr (je_var 1) je_int (fun _ _ => rfl)) (fun _ _ => rfl)))))) jss_nil) (jss_one (js_retW (je_ix (K := K) hr (je_disp (jps_cons je_str je_str (jps_cons je_str je_str (jps_cons je_str je_str jps_nil)))) (je_ix (K := K) hr (je_var 1) je_int (fun _ _ => rfl)) (fun _ _ => rfl)))))⟩
theorem b_read_call {f : Addr} (g_LETTERS : GlobD K mg "LETTERS" v_LETTERS) (tb_TEXTS : TabD K mg w "TEXTS" v_TEXTS) (B : Blt mg) : Body P w K mg base 0 N_read_call "read_call" s_read_call f d_read_call := fun cdv A outer s H E hr => by
  have nd : N_read_call.Nodup := sc_read_call.nd
  exact ⟨_, (jss_cons (js_if (jt_inTab (K := K) (by rfl) tb_TEXTS (je_var 1)) (jss_one (js_ret (je_ixTab (K := K) (by rfl) tb_TEXTS (je_var 1) (fun _ _ => rfl)))) jss_nil) (jss_cons (js_set (i := 2) (je_ifExp (jt_cmp (op_eqU (K := K) hr) lo_eq (je_slice (K := K) (je_var 1) (jo_some (je_un un_neg lo_neg je_int)) jo_none) je_str (nomark _)) (je_var 0) (je_bm (K := K) PySem.F.plainAttrs_str PySem.F.slot_str_find PySem.F.type_str_find mt_find okT_S lm_find (je_slice (K := K) (je_glob (K := K) (by rfl) g_LETTERS) jo_none (jo_some (je_var 0))) (ja_cons (je_slice (K := K) (je_var 1) (jo_some (je_un un_neg lo_neg je_int)) jo_none) ja_nil))) nd) (jss_cons (js_set (i := 3) (je_slice (K := K) (je_var 1) jo_none (jo_some (je_un un_neg lo_neg je_int))) nd) (jss_cons (JLS.v (jls_lc (own := [("char", 6)]) rfl nd (ji_any (K := K) (je_var 3)) (blkOk_by (own := [("char", 6)]) (N := N_read_call) (sc := defScope s_read_call) (by decide +kernel)) (own_name (by decide)) (fun _ _ _ _ _ => (jg_name (i := 6) nd)) (fun _ _ _ _ _ => (jts_one (jt_cmp (op_notInU (K := K) hr) lo_notin (je_var 6) je_str rfl))) (fun _ _ _ _ _ => (je_var 6)) rfl (sw_true rfl rfl rfl (by decide +kernel)))) (jss_cons (js_if (jt_w (jw_or (jt_not (jt_chain op_le lo_le op_le lo_le je_int (je_callB (cb_len (K := K)) lc_len (by rfl) B.n_len bt_len (ja_cons (je_var 3) ja_nil)) je_int)) (jw_or (jt_cmp (op_neU (K := K) hr) lo_ne (je_var 4) (JL.vl (jl_lst ja_nil)) (nomark _)) (jw_or (jt_cmp (op_eqU (K := K) hr) lo_eq (je_ix (K := K) hr (je_var 3) je_int (fun _ _ => rfl)) je_str (nomark _)) (jw_or1 (jt_cmp op_lt lo_lt (je_var 2) je_int (nomark _))))))) (jss_one js_never) jss_nil) (jss_cons (js_set (i := 5) je_int nd) (jss_cons (js_for PassesOwn.never rfl (ji_any (K := K) (je_var 3)) (jg_name (i := 6) nd) (jss_one (js_set (i := 5) (je_op (op_addU (K := K)) lo_add (je_op op_mul lo_mul je_int (je_var 5)) (je_bm (K := K) PySem.F.plainAttrs_str PySem.F.slot_str_find PySem.F.type_str_find mt_find okT_S lm_find je_str (ja_cons (je_var 6) ja_nil))) nd))) (jss_one (js_ret (je_tup (ja_cons je_str (ja_cons (je_var 5) (ja_cons (je_var 2) ja_nil)))))))))))))⟩
theorem b__law_cell {f : Addr} (B : Blt mg) : Body P w K mg base 0 N__law_cell "_law_cell" s__law_cell f d__law_cell := fun cdv A outer s H E hr => by
  have nd : N__law_cell.Nodup := sc__law_cell.nd
  exact ⟨_, (jss_cons (js_if (jt_cmp op_lt lo_lt (je_var 1) (je_callB (cb_len (K := K)) lc_len (by rfl) B.n_len bt_len (ja_cons (je_var 0) ja_nil)) (nomark _)) (jss_one (js_ret (je_ix (K := K) hr (je_var 0) (je_var 1) (fun _ _ => rfl)))) jss_nil) (jss_one (js_ret je_int)))⟩
theorem b__law_numbers {f : Addr} (B : Blt mg) : Body P w K mg base 0 N__law_numbers "_law_numbers" s__law_numbers f d__law_numbers := fun cdv A outer s H E hr => by
  have nd : N__law_numbers.Nodup := sc__law_numbers.nd
  exact ⟨_, (jss_cons (js_set (i := 2) (JL.cl (jl_lst ja_nil)) nd) (jss_cons (js_set (i := 3) (je_var 0) nd) (jss_cons (js_for PassesOwn.never rfl (ji_range1 (by rfl) B.n_range (ja_cons (je_var 1) ja_nil)) (jg_name (i := 4) nd) (jss_one (js_if (jt_w (jw_and (jt_cmp op_ge lo_ge (je_var 0) (je_op op_pow lo_pow je_int je_int) (nomark _)) (jw_and1 (jt_cmp op_gt lo_gt (je_var 3) je_int (nomark _))))) (jss_cons (js_expr (je_bm (K := K) PySem.F.plainAttrs_list PySem.F.slot_list_append PySem.F.type_list_append mt_append okT_L lm_append (je_var 2) (ja_cons (je_op op_mod lo_mod (je_callTy call_int1 lc_int (by rfl) B.n_int bt_int (ja_cons (je_var 3) ja_nil)) je_int) ja_nil))) (jss_one (js_set (i := 3) (je_op op_fdiv lo_fdiv (je_var 3) je_int) nd))) (jss_cons (js_set (i := 5) (je_op op_mod lo_mod (je_callTy call_int1 lc_int (by rfl) B.n_int bt_int (ja_cons (je_op (op_addU (K := K)) lo_add (je_op op_mul lo_mul (je_var 0) je_int) (je_op op_mul lo_mul (je_op (op_addU (K := K)) lo_add (je_var 4) je_int) je_int)) ja_nil)) je_int) nd) (jss_cons (js_set (i := 5) (je_op op_mod lo_mod (je_callTy call_int1 lc_int (by rfl) B.n_int bt_int (ja_cons (je_op (op_addU (K := K)) lo_add (je_op (op_addU (K := K)) lo_add (je_op op_mul lo_mul (je_var 5) (je_var 5)) (je_op op_mul lo_mul (je_var 5) je_int)) (je_op op_mul lo_mul (je_var 4) je_int)) ja_nil)) je_int) nd) (jss_cons (js_set (i := 5) (je_op op_mod lo_mod (je_callTy call_int1 lc_int (by rfl) B.n_int bt_int (ja_cons (je_op (op_addU (K := K)) lo_add (je_op (op_addU (K := K)) lo_add (je_op op_mul lo_mul (je_var 5) (je_var 5)) (je_var 0)) (je_op op_mul lo_mul je_int (je_var 4))) ja_nil)) je_int) nd) (jss_one (js_expr (je_bm (K := K) PySem.F.plainAttrs_list PySem.F.slot_list_append PySem.F.type_list_append mt_append okT_L lm_append (je_var 2) (ja_cons (je_op op_mod lo_mod (je_op op_fdiv lo_fdiv (je_var 5) je_int) je_int) ja_nil)))))))))) (jss_one (js_retF (je_var 2))))))⟩
theorem b__law_pool {f : Addr} (c__law_numbers : FnT P w K mg base 1 "_law_numbers" sp__law_numbers) (c__law_cell : FnT P w K mg base 1 "_law_cell" sp__law_cell) (B : Blt mg) : Body P w K mg base 1 N__law_pool "_law_pool" s__law_pool f d__law_pool := fun cdv A outer s H E hr => by
  have nd : N__law_pool.Nodup := sc__law_pool.nd
  exact ⟨_, (jss_cons (js_set (i := 1) (JL.vl (jl_lst ja_nil)) nd) (jss_cons (js_for PassesOwn.never rfl (ji_range1 (by rfl) B.n_range (ja_cons (je_callB (cb_min (K := K)) lc_minU (by rfl) B.n_min bt_min (ja_cons je_int (ja_cons (je_callB (cb_max (K := K)) lc_maxU (by rfl) B.n_max bt_max (ja_cons je_int (ja_cons (je_callB (cb_len (K := K)) lc_len (by rfl) B.n_len bt_len (ja_cons (je_var 0) ja_nil)) ja_nil))) ja_nil))) ja_nil)) (jg_name (i := 2) nd) (jss_one (js_set (i := 1) (je_op (op_addU (K := K)) lo_add (je_var 1) (je_call (K := K) c__law_numbers hr (by decide) (by rfl) (ja_cons (je_op (op_addU (K := K)) lo_add (je_call (K := K) c__law_cell hr (by decide) (by rfl) (ja_cons (je_var 0) (ja_cons (je_var 2) ja_nil))) (je_op op_mul lo_mul je_int (je_var 2))) (ja_cons je_int ja_nil)))) nd))) (jss_one (js_ret (JL.cl (jl_lst (ja_cons (je_var 1) (ja_cons (JL.cl (jl_lst (ja_cons je_int ja_nil))) ja_nil))))))))⟩
theorem b__law_draw {f : Addr} (B : Blt mg) : Body P w K mg base 0 N__law_draw "_law_draw" s__law_draw f d__law_draw := fun cdv A outer s H E hr => by
  have nd : N__law_draw.Nodup := sc__law_draw.nd
  exact ⟨_, (jss_cons (js_set (i := 2) (je_ix (K := K) hr (je_ix (K := K) hr (je_var 0) je_int (fun _ _ => rfl)) je_int (fun _ _ => rfl)) nd) (jss_cons (js_asg (je_op (op_addU (K := K)) lo_add (je_var 2) je_int) (jg_sub hr (je_ix (K := K) hr (je_var 0) je_int (fun _ _ => rfl)) je_int)) (jss_cons (js_set (i := 3) (je_op op_fdiv lo_fdiv (je_var 2) (je_callB (cb_len (K := K)) lc_len (by rfl) B.n_len bt_len (ja_cons (je_ix (K := K) hr (je_var 0) je_int (fun _ _ => rfl)) ja_nil))) nd) (jss_one (js_ret (je_op op_mod lo_mod (je_callTy call_int1 lc_int (by rfl) B.n_int bt_int (ja_cons (je_op (op_addU (K := K)) lo_add (je_op (op_addU (K := K)) lo_add (je_ix (K := K) hr (je_ix (K := K) hr (je_var 0) je_int (fun _ _ => rfl)) (je_op op_mod lo_mod (je_var 2) (je_callB (cb_len (K := K)) lc_len (by rfl) B.n_len bt_len (ja_cons (je_ix (K := K) hr (je_var 0) je_int (fun _ _ => rfl)) ja_nil))) (fun _ _ => rfl)) (je_op op_mul lo_mul (je_var 3) je_int)) (je_op op_mul lo_mul (je_op op_mul lo_mul (je_var 3) (je_var 2)) je_int)) ja_nil)) (je_var 1)))))))⟩
theorem b__law_kind {f : Addr} (B : Blt mg) : Body P w K mg base 0 N__law_kind "_law_kind" s__law_kind f d__law_kind := fun cdv A outer s H E hr => by
  have nd : N__law_kind.Nodup := sc__law_kind.nd
  exact ⟨_, (jss_cons (js_if (jt_val (je_isi (K := K) (by rfl) (by rfl) B.n_isinstance B.n_bool kit_bool bt_bool (je_var 0))) (jss_one (js_ret je_int)) jss_nil) (jss_cons (js_if (jt_val (je_isi (K := K) (by rfl) (by rfl) B.n_isinstance B.n_int kit_int bt_int (je_var 0))) (jss_one (js_ret je_int)) jss_nil) (jss_cons (js_if (jt_val (je_isi (K := K) (by rfl) (by rfl) B.n_isinstance B.n_str kit_str bt_str (je_var 0))) (jss_one (js_ret je_int)) jss_nil) (jss_cons (js_if (jt_val (je_isi (K := K) (by rfl) (by rfl) B.n_isinstance B.n_tuple kit_tuple bt_tuple (je_var 0))) (jss_one (js_ret je_int)) jss_nil) (jss_cons (js_if (jt_val (je_isi (K := K) (by rfl) (by rfl) B.n_isinstance B.n_list kit_list bt_list (je_var 0))) (jss_one (js_ret je_int)) jss_nil) (jss_cons (js_if (jt_cmp op_isN lo_isN (je_var 0) je_non (nomark _)) (jss_one (js_ret je_int)) jss_nil) (jss_one (js_ret je_int))))))))⟩
theorem b__law_equal {f : Addr} {n : Nat} (c__law_kind : FnT P w K mg base 1 "_law_kind" sp__law_kind) (c__law_equal : FnT P w K mg base (n + 1) "_law_equal" (sp__law_equal n)) (B : Blt mg) : Body P w K mg base (n + 1) N__law_equal "_law_equal" s__law_equal f (d__law_equal n) := fun cdv A outer s H E hr => by
  have nd : N__law_equal.Nodup := sc__law_equal.nd
  exact ⟨_, (jss_cons (js_if (jt_w (jw_or (jt_cmp (op_neU (K := K) hr) lo_ne (je_call (K := K) c__law_kind hr (by omega) (by rfl) (ja_cons (je_var 0) ja_nil)) (je_call (K := K) c__law_kind hr (by omega) (by rfl) (ja_cons (je_var 1) ja_nil)) (nomark _)) (jw_or1 (jt_cmp (op_eqU (K := K) hr) lo_eq (je_call (K := K) c__law_kind hr (by omega) (by rfl) (ja_cons (je_var 0) ja_nil)) je_int (nomark _))))) (jss_one (js_ret je_bl)) jss_nil) (jss_cons (js_if (jt_w (jw_or (jt_val (je_isi (K := K) (by rfl) (by rfl) B.n_isinstance B.n_tuple kit_tuple bt_tuple (je_var 1))) (jw_or1 (jt_val (je_isi (K := K) (by rfl) (by rfl) B.n_isinstance B.n_list kit_list bt_list (je_var 1)))))) (jss_cons (js_if (jt_cmp (op_neU (K := K) hr) lo_ne (je_callB (cb_len (K := K)) lc_len (by rfl) B.n_len bt_len (ja_cons (je_var 0) ja_nil)) (je_callB (cb_len (K := K)) lc_len (by rfl) B.n_len bt_len (ja_cons (je_var 1) ja_nil)) (nomark _)) (jss_one (js_ret je_bl)) jss_nil) (jss_cons (js_for PassesOwn.never rfl (ji_range1 (by rfl) B.n_range (ja_cons (je_callB (cb_len (K := K)) lc_len (by rfl) B.n_len bt_len (ja_cons (je_var 1) ja_nil)) ja_nil)) (jg_name (i := 2) nd) (jss_one (js_if (jt_not (jt_val (je_call (K := K) c__law_equal hr (by omega) (by rfl) (ja_cons (je_ix (K := K) hr (je_var 0) (je_var 2) (fun _ _ => rfl)) (ja_cons (je_ix (K := K) hr (je_var 1) (je_var 2) (fun _ _ => rfl)) ja_nil))))) (jss_one (js_ret je_bl)) jss_nil))) (jss_one (js_ret je_bl)))) jss_nil) (jss_one (js_ret (je_cmp (op_eqU (K := K) hr) lo_eq (je_var 0) (je_var 1) (nomark _))))))⟩
theorem b__law_call {f : Addr} (B : Blt mg) : Body P w K mg base 0 N__law_call "_law_call" s__law_call f d__law_call := fun cdv A outer s H E hr => by
  have nd : N__law_call.Nodup := sc__law_call.nd
  exact ⟨_, (jss_cons (js_if (jt_cmp (op_eqU (K := K) hr) lo_eq (je_ix (K := K) hr (je_var 1) je_int (fun _ _ => rfl)) je_str (nomark _)) (jss_one (js_retW (je_op (op_addU (K := K)) lo_add (je_callTy call_str_int lc_str (by rfl) B.n_str bt_str (ja_cons (je_ix (K := K) hr (je_var 1) je_int (fun _ _ => rfl)) ja_nil)) (je_ix (K := K) hr (je_ix (K := K) hr (JL.vl (jl_lst (ja_cons (je_op (op_addU (K := K)) lo_add (je_slice (K := K) je_str jo_none (jo_some (je_var 0))) je_str) ja_nil))) je_int (fun _ _ => rfl)) (je_ix (K := K) hr (je_var 1) je_int (fun _ _ => rfl)) (fun _ _ => rfl))))) jss_nil) (jss_one (js_retW (je_ix (K := K) hr (je_disp (jps_cons je_str je_str (jps_cons je_str je_str (jps_cons je_str je_str jps_nil)))) (je_ix (K := K) hr (je_var 1) je_int (fun _ _ => rfl)) (fun _ _ => rfl)))))⟩
theorem b_law {f : Addr} (c__law_pool : FnT P w K mg base 2 "_law_pool" sp__law_pool) (c__law_draw : FnT P w K mg base 1 "_law_draw" sp__law_draw) (m_Auction : MkT P w K mg base 2 "Auction" sp_Auction___init__) (t_Auction_is_over : MtT P w K mg base 2 ["Auction"] "is_over" sp_Auction_is_over) (t_Auction_legal : MtT P w K mg base 3 ["Auction"] "legal" sp_Auction_legal) (t_Auction_call : MtT P w K mg base 4 ["Auction"] "call" sp_Auction_call) (t_Auction_calls : MtT P w K mg base 1 ["Auction"] "calls" sp_Auction_calls) (c_call_text : FnT P w K mg base 1 "call_text" sp_call_text) (c__law_equal : FnT P w K mg base 30 "_law_equal" (sp__law_equal 29)) (c__law_call : FnT P w K mg base 1 "_law_call" sp__law_call) (c_read_call : FnT P w K mg base 1 "read_call" sp_read_call) (t_Auction_contract : MtT P w K mg base 3 ["Auction"] "contract" sp_Auction_contract) (c_score : FnT P w K mg base 3 "score" sp_score) (c_needed : FnT P w K mg base 1 "needed" sp_needed) (c_score_for : FnT P w K mg base 4 "score_for" sp_score_for) (c_compared : FnT P w K mg base 1 "compared" sp_compared) (B : Blt mg) : Body P w K mg base 30 N_law "law" s_law f d_law := fun cdv A outer s H E hr => by
  have nd : N_law.Nodup := sc_law.nd
  exact ⟨_, (jss_cons (js_set (i := 1) (je_call (K := K) c__law_pool hr (by decide) (by rfl) (ja_cons (je_var 0) ja_nil)) nd) (jss_cons (js_set (i := 2) (je_op (op_addU (K := K)) lo_add je_int (je_call (K := K) c__law_draw hr (by decide) (by rfl) (ja_cons (je_var 1) (ja_cons je_int ja_nil)))) nd) (jss_cons (js_set (i := 3) (je_op (op_addU (K := K)) lo_add je_int (je_call (K := K) c__law_draw hr (by decide) (by rfl) (ja_cons (je_var 1) (ja_cons je_int ja_nil)))) nd) (jss_cons (js_set (i := 4) (je_call (K := K) c__law_draw hr (by decide) (by rfl) (ja_cons (je_var 1) (ja_cons je_int ja_nil))) nd) (jss_cons (js_set (i := 5) (je_make (K := K) m_Auction hr (by decide) (by rfl) (ja_cons (je_var 2) (ja_cons (je_var 3) (ja_cons (je_var 4) ja_nil)))) nd) (jss_cons (js_for PassesOwn.never rfl (ji_range1 (by rfl) B.n_range (ja_cons je_int ja_nil)) (jg_name (i := 6) nd) (jss_one (js_if (jt_not (jt_val (je_meth0 (K := K) t_Auction_is_over hr (by decide) (je_var 5)))) (jss_cons (js_set (i := 7) (je_meth0 (K := K) t_Auction_legal hr (by decide) (je_var 5)) nd) (jss_cons (js_set (i := 8) je_int nd) (jss_cons (js_if (jt_cmp op_gt lo_gt (je_call (K := K) c__law_draw hr (by decide) (by rfl) (ja_cons (je_var 1) (ja_cons je_int ja_nil))) je_int (nomark _)) (jss_one (js_set (i := 8) (je_callB (cb_min (K := K)) lc_minU (by rfl) B.n_min bt_min (ja_cons (je_call (K := K) c__law_draw hr (by decide) (by rfl) (ja_cons (je_var 1) (ja_cons (je_callB (cb_len (K := K)) lc_len (by rfl) B.n_len bt_len (ja_cons (je_var 7) ja_nil)) ja_nil))) (ja_cons (je_call (K := K) c__law_draw hr (by decide) (by rfl) (ja_cons (je_var 1) (ja_cons je_int ja_nil))) ja_nil))) nd)) jss_nil) (jss_one (js_expr (je_meth (K := K) t_Auction_call hr (by decide) (je_var 5) (ja_cons (je_ix (K := K) hr (je_var 7) (je_callB (cb_min (K := K)) lc_minU (by rfl) B.n_min bt_min (ja_cons (je_var 8) (ja_cons (je_op op_sub lo_sub (je_callB (cb_len (K := K)) lc_len (by rfl) B.n_len bt_len (ja_cons (je_var 7) ja_nil)) je_int) ja_nil))) (fun _ _ => rfl)) ja_nil))))))) jss_nil))) (jss_cons (js_set (i := 9) (je_meth0 (K := K) t_Auction_calls hr (by decide) (je_var 5)) nd) (jss_cons (JLS.v (jls_lc (own := [("call", 27)]) rfl nd (ji_any (K := K) (je_var 9)) (blkOk_by (own := [("call", 27)]) (N := N_law) (sc := defScope s_law) (by decide +kernel)) (own_name (by decide)) (fun _ _ _ _ _ => (jg_name (i := 27) nd)) (fun _ _ _ _ _ => jts_nil) (fun _ _ _ _ _ => (je_call (K := K) c_call_text hr (by decide) (by rfl) (ja_cons (je_var 2) (ja_cons (je_var 27) ja_nil)))) rfl (sw_true rfl rfl rfl (by decide +kernel)))) (jss_cons (js_if (jt_w (jw_or (jt_not (jt_val (je_call (K := K) c__law_equal hr (by decide) (by rfl) (ja_cons (je_var 10) (ja_cons (JL.vl (jl_lc (own := [("call", 27)]) rfl nd (ji_any (K := K) (je_var 9)) (blkOk_by (own := [("call", 27)]) (N := N_law) (sc := defScope s_law) (by decide +kernel)) (own_name (by decide)) (fun _ _ _ _ _ => (jg_name (i := 27) nd)) (fun _ _ _ _ _ => jts_nil) (fun _ _ _ _ _ => (je_call (K := K) c__law_call hr (by decide) (by rfl) (ja_cons (je_var 2) (ja_cons (je_var 27) ja_nil)))))) ja_nil))))) (jw_or1 (jt_not (jt_val (je_call (K := K) c__law_equal hr (by decide) (by rfl) (ja_cons (JL.vl (jl_lc (own := [("text", 28)]) rfl nd (ji_any (K := K) (je_var 10)) (blkOk_by (own := [("text", 28)]) (N := N_law) (sc := defScope s_law) (by decide +kernel)) (own_name (by decide)) (fun _ _ _ _ _ => (jg_name (i := 28) nd)) (fun _ _ _ _ _ => jts_nil) (fun _ _ _ _ _ => (je_call (K := K) c_read_call hr (by decide) (by rfl) (ja_cons (je_var 2) (ja_cons (je_var 28) ja_nil)))))) (ja_cons (je_var 9) ja_nil)))))))) (jss_one (js_retW je_bl)) jss_nil) (jss_cons (JLS.v (jls_lc (own := [("k", 6)]) rfl nd (ji_range1 (by rfl) B.n_range (ja_cons (je_callB (cb_len (K := K)) lc_len (by rfl) B.n_len bt_len (ja_cons (je_var 9) ja_nil)) ja_nil)) (blkOk_by (own := [("k", 6)]) (N := N_law) (sc := defScope s_law) (by decide +kernel)) (own_name (by decide)) (fun _ _ _ _ _ => (jg_name (i := 6) nd)) (fun _ _ _ _ _ => (jts_one (jt_cmp (op_eqU (K := K) hr) lo_eq (je_ix (K := K) hr (je_ix (K := K) hr (je_var 9) (je_var 6) (fun _ _ => rfl)) je_int (fun _ _ => rfl)) je_str (nomark _)))) (fun _ _ _ _ _ => (je_var 6)) rfl (sw_true rfl rfl rfl (by decide +kernel)))) (jss_cons (js_if (jt_cmp (op_eqU (K := K) hr) lo_eq (je_callB (cb_len (K := K)) lc_len (by rfl) B.n_len bt_len (ja_cons (je_var 11) ja_nil)) je_int (nomark _)) (jss_one (js_retW (je_and (je_cmp op_isN lo_isN (je_meth0 (K := K) t_Auction_contract hr (by decide) (je_var 5)) je_non (nomark _)) (je_and (je_cmp (op_eqU (K := K) hr) lo_eq (je_callB (cb_len (K := K)) lc_len (by rfl) B.n_len bt_len (ja_cons (je_var 9) ja_nil)) je_int (nomark _)) (je_one (je_cmp (op_eqU (K := K) hr) lo_eq (je_call (K := K) c_score hr (by decide) (by rfl) (ja_cons (je_var 2) (ja_cons (je_var 3) (ja_cons je_non (ja_cons je_int (ja_cons (JL.vl (jl_lst (ja_cons je_bl (ja_cons je_bl ja_nil)))) ja_nil)))))) je_int (nomark _))))))) jss_nil) (jss_cons (js_set (i := 12) (je_ix (K := K) hr (je_var 11) (je_un un_neg lo_neg je_int) (fun _ _ => rfl)) nd) (jss_cons (js_set (i := 13) (je_op (op_addU (K := K)) lo_add (je_callB (cb_len (K := K)) lc_len (by rfl) B.n_len bt_len (ja_cons (JL.vl (jl_lc (own := [("call", 27)]) rfl nd (ji_any (K := K) (je_slice (K := K) (je_var 9) (jo_some (je_var 12)) jo_none)) (blkOk_by (own := [("call", 27)]) (N := N_law) (sc := defScope s_law) (by decide +kernel)) (own_name (by decide)) (fun _ _ _ _ _ => (jg_name (i := 27) nd)) (fun _ _ _ _ _ => (jts_one (jt_cmp (op_eqU (K := K) hr) lo_eq (je_ix (K := K) hr (je_var 27) je_int (fun _ _ => rfl)) je_str (nomark _)))) (fun _ _ _ _ _ => (je_var 27)))) ja_nil)) (je_callB (cb_len (K := K)) lc_len (by rfl) B.n_len bt_len (ja_cons (JL.vl (jl_lc (own := [("call", 27)]) rfl nd (ji_any (K := K) (je_slice (K := K) (je_var 9) (jo_some (je_var 12)) jo_none)) (blkOk_by (own := [("call", 27)]) (N := N_law) (sc := defScope s_law) (by decide +kernel)) (own_name (by decide)) (fun _ _ _ _ _ => (jg_name (i := 27) nd)) (fun _ _ _ _ _ => (jts_one (jt_cmp (op_eqU (K := K) hr) lo_eq (je_ix (K := K) hr (je_var 27) je_int (fun _ _ => rfl)) je_str (nomark _)))) (fun _ _ _ _ _ => (je_var 27)))) ja_nil))) nd) (jss_cons (js_set (i := 14) (je_ix (K := K) hr (je_ix (K := K) hr (je_var 9) (je_var 12) (fun _ _ => rfl)) je_int (fun _ _ => rfl)) nd) (jss_cons (js_set (i := 15) (je_ix (K := K) hr (JL.vl (jl_lc (own := [("k", 6)]) rfl nd (ji_any (K := K) (je_var 11)) (blkOk_by (own := [("k", 6)]) (N := N_law) (sc := defScope s_law) (by decide +kernel)) (own_name (by decide)) (fun _ _ _ _ _ => (jg_name (i := 6) nd)) (fun _ _ _ _ _ => (jts_one (jt_w (jw_and (jt_cmp (op_eqU (K := K) hr) lo_eq (je_ix (K := K) hr (je_ix (K := K) hr (je_var 9) (je_var 6) (fun _ _ => rfl)) je_int (fun _ _ => rfl)) (je_var 14) (nomark _)) (jw_and1 (jt_cmp (op_eqU (K := K) hr) lo_eq (je_op op_mod lo_mod (je_callTy call_int1 lc_int (by rfl) B.n_int bt_int (ja_cons (je_var 6) ja_nil)) je_int) (je_op op_mod lo_mod (je_callTy call_int1 lc_int (by rfl) B.n_int bt_int (ja_cons (je_var 12) ja_nil)) je_int) (nomark _))))))) (fun _ _ _ _ _ => (je_var 6)))) je_int (fun _ _ => rfl)) nd) (jss_cons (js_set (i := 16) (je_op op_mod lo_mod (je_callTy call_int1 lc_int (by rfl) B.n_int bt_int (ja_cons (je_op (op_addU (K := K)) lo_add (je_var 4) (je_var 15)) ja_nil)) je_int) nd) (jss_cons (js_set (i := 17) (je_tup (ja_cons (je_ix (K := K) hr (je_ix (K := K) hr (je_var 9) (je_var 12) (fun _ _ => rfl)) je_int (fun _ _ => rfl)) (ja_cons (je_var 14) (ja_cons (je_var 13) (ja_cons (je_var 16) ja_nil))))) nd) (jss_cons (js_if (jt_not (jt_val (je_call (K := K) c__law_equal hr (by decide) (by rfl) (ja_cons (je_meth0 (K := K) t_Auction_contract hr (by decide) (je_var 5)) (ja_cons (je_var 17) ja_nil))))) (jss_one (js_retW je_bl)) jss_nil) (jss_cons (js_for PassesOwn.never rfl (ji_any (K := K) (JL.vl (jl_lst (ja_cons (JL.vl (jl_lst (ja_cons je_bl (ja_cons je_bl ja_nil)))) (ja_cons (JL.vl (jl_lst (ja_cons je_bl (ja_cons je_bl ja_nil)))) (ja_cons (JL.vl (jl_lst (ja_cons je_bl (ja_cons je_bl ja_nil)))) ja_nil)))))) (jg_name (i := 18) nd) (jss_cons (js_set (i := 19) (JL.vl (jl_lc (own := [("tricks", 21)]) rfl nd (ji_range1 (by rfl) B.n_range (ja_cons (je_op (op_addU (K := K)) lo_add (je_var 3) je_int) ja_nil)) (blkOk_by (own := [("tricks", 21)]) (N := N_law) (sc := defScope s_law) (by decide +kernel)) (own_name (by decide)) (fun _ _ _ _ _ => (jg_name (i := 21) nd)) (fun _ _ _ _ _ => jts_nil) (fun _ _ _ _ _ => (je_call (K := K) c_score hr (by decide) (by rfl) (ja_cons (je_var 2) (ja_cons (je_var 3) (ja_cons (je_var 17) (ja_cons (je_var 21) (ja_cons (je_var 18) ja_nil))))))))) nd) (jss_cons (js_set (i := 20) (je_call (K := K) c_needed hr (by decide) (by rfl) (ja_cons (je_var 3) (ja_cons (je_ix (K := K) hr (je_var 17) je_int (fun _ _ => rfl)) ja_nil))) nd) (jss_cons (js_if (jt_w (jw_or (jt_cmp (op_neU (K := K) hr) lo_ne (je_var 20) (je_op (op_addU (K := K)) lo_add (je_op op_fdiv lo_fdiv (je_var 3) je_int) (je_ix (K := K) hr (je_var 17) je_int (fun _ _ => rfl))) (nomark _)) (jw_or1 (jt_cmp op_gt lo_gt (je_callB (cb_len (K := K)) lc_len (by rfl) B.n_len bt_len (ja_cons (JL.vl (jl_lc (own := [("k", 6)]) rfl nd (ji_range2 (by rfl) B.n_range (ja_cons je_int (ja_cons (je_op (op_addU (K := K)) lo_add (je_var 3) je_int) ja_nil))) (blkOk_by (own := [("k", 6)]) (N := N_law) (sc := defScope s_law) (by decide +kernel)) (own_name (by decide)) (fun _ _ _ _ _ => (jg_name (i := 6) nd)) (fun _ _ _ _ _ => (jts_one (jt_cmp op_le lo_le (je_ix (K := K) hr (je_var 19) (je_var 6) (fun _ _ => rfl)) (je_ix (K := K) hr (je_var 19) (je_op op_sub lo_sub (je_var 6) je_int) (fun _ _ => rfl)) (nomark _)))) (fun _ _ _ _ _ => (je_var 6)))) ja_nil)) je_int (nomark _))))) (jss_one (js_retW je_bl)) jss_nil) (jss_cons (js_for PassesOwn.never rfl (ji_range1 (by rfl) B.n_range (ja_cons (je_op (op_addU (K := K)) lo_add (je_var 3) je_int) ja_nil)) (jg_name (i := 21) nd) (jss_cons (js_if (jt_cmp (op_neU (K := K) hr) lo_ne (je_cmp op_gt lo_gt (je_ix (K := K) hr (je_var 19) (je_var 21) (fun _ _ => rfl)) je_int (nomark _)) (je_cmp op_ge lo_ge (je_var 21) (je_var 20) (nomark _)) (nomark _)) (jss_one (js_retW je_bl)) jss_nil) (jss_cons (js_set (i := 22) (je_call (K := K) c_score_for hr (by decide) (by rfl) (ja_cons (je_var 2) (ja_cons (je_var 3) (ja_cons (je_var 17) (ja_cons (je_var 21) (ja_cons (je_var 18) (ja_cons (je_op op_mod lo_mod (je_callTy call_int1 lc_int (by rfl) B.n_int bt_int (ja_cons (je_var 16) ja_nil)) je_int) ja_nil))))))) nd) (jss_one (js_if (jt_w (jw_or (jt_cmp (op_neU (K := K) hr) lo_ne (je_var 22) (je_ix (K := K) hr (je_var 19) (je_var 21) (fun _ _ => rfl)) (nomark _)) (jw_or1 (jt_cmp (op_neU (K := K) hr) lo_ne (je_call (K := K) c_score_for hr (by decide) (by rfl) (ja_cons (je_var 2) (ja_cons (je_var 3) (ja_cons (je_var 17) (ja_cons (je_var 21) (ja_cons (je_var 18) (ja_cons (je_op op_sub lo_sub je_int (je_op op_mod lo_mod (je_callTy call_int1 lc_int (by rfl) B.n_int bt_int (ja_cons (je_var 16) ja_nil)) je_int)) ja_nil))))))) (je_un un_neg lo_neg (je_ix (K := K) hr (je_var 19) (je_var 21) (fun _ _ => rfl))) (nomark _))))) (jss_one (js_retW je_bl)) jss_nil))))) (jss_cons (js_set (i := 23) (je_op (op_addU (K := K)) lo_add (je_slice (K := K) (je_var 17) jo_none (jo_some je_int)) (je_tup (ja_cons je_int (ja_cons (je_var 16) ja_nil)))) nd) (jss_cons (js_set (i := 24) (je_op (op_addU (K := K)) lo_add (je_slice (K := K) (je_var 17) jo_none (jo_some je_int)) (je_tup (ja_cons je_int (ja_cons (je_var 16) ja_nil)))) nd) (jss_one (js_for PassesOwn.never rfl (ji_range1 (by rfl) B.n_range (ja_cons (je_var 20) ja_nil)) (jg_name (i := 21) nd) (jss_one (js_if (jt_cmp (op_neU (K := K) hr) lo_ne (je_call (K := K) c_score hr (by decide) (by rfl) (ja_cons (je_var 2) (ja_cons (je_var 3) (ja_cons (je_var 24) (ja_cons (je_var 21) (ja_cons (je_var 18) ja_nil)))))) (je_op op_mul lo_mul je_int (je_call (K := K) c_score hr (by decide) (by rfl) (ja_cons (je_var 2) (ja_cons (je_var 3) (ja_cons (je_var 23) (ja_cons (je_var 21) (ja_cons (je_var 18) ja_nil))))))) (nomark _)) (jss_one (js_retW je_bl)) jss_nil))))))))))) (jss_cons (js_set (i := 25) (JL.vl (jl_lc (own := [("k", 6)]) rfl nd (ji_range1 (by rfl) B.n_range (ja_cons (je_op (op_addU (K := K)) lo_add je_int (je_call (K := K) c__law_draw hr (by decide) (by rfl) (ja_cons (je_var 1) (ja_cons je_int ja_nil)))) ja_nil)) (blkOk_by (own := [("k", 6)]) (N := N_law) (sc := defScope s_law) (by decide +kernel)) (own_name (by decide)) (fun _ _ _ _ _ => (jg_name (i := 6) nd)) (fun _ _ _ _ _ => jts_nil) (fun _ _ _ _ _ => (je_ix (K := K) hr (je_var 19) (je_call (K := K) c__law_draw hr (by decide) (by rfl) (ja_cons (je_var 1) (ja_cons (je_op (op_addU (K := K)) lo_add (je_var 3) je_int) ja_nil))) (fun _ _ => rfl))))) nd) (jss_cons (js_set (i := 26) (je_call (K := K) c_compared hr (by decide) (by rfl) (ja_cons (je_var 25) ja_nil)) nd) (jss_cons (js_if (jt_w (jw_or (jt_cmp (op_neU (K := K) hr) lo_ne (je_callB (cb_sum (K := K)) lc_sum (by rfl) B.n_sum bt_sum (ja_cons (je_var 26) ja_nil)) (je_op op_mul lo_mul (je_callB (cb_len (K := K)) lc_len (by rfl) B.n_len bt_len (ja_cons (je_var 25) ja_nil)) (je_op op_sub lo_sub (je_callB (cb_len (K := K)) lc_len (by rfl) B.n_len bt_len (ja_cons (je_var 25) ja_nil)) je_int)) (nomark _)) (jw_or1 (jt_not (jt_val (je_call (K := K) c__law_equal hr (by decide) (by rfl) (ja_cons (je_call (K := K) c_compared hr (by decide) (by rfl) (ja_cons (JL.vl (jl_lc (own := [("one", 29)]) rfl nd (ji_any (K := K) (je_var 25)) (blkOk_by (own := [("one", 29)]) (N := N_law) (sc := defScope s_law) (by decide +kernel)) (own_name (by decide)) (fun _ _ _ _ _ => (jg_name (i := 29) nd)) (fun _ _ _ _ _ => jts_nil) (fun _ _ _ _ _ => (je_un un_neg lo_neg (je_var 29))))) ja_nil)) (ja_cons (JL.vl (jl_lc (own := [("one", 29)]) rfl nd (ji_any (K := K) (je_var 26)) (blkOk_by (own := [("one", 29)]) (N := N_law) (sc := defScope s_law) (by decide +kernel)) (own_name (by decide)) (fun _ _ _ _ _ => (jg_name (i := 29) nd)) (fun _ _ _ _ _ => jts_nil) (fun _ _ _ _ _ => (je_op op_sub lo_sub (je_op op_mul lo_mul je_int (je_op op_sub lo_sub (je_callB (cb_len (K := K)) lc_len (by rfl) B.n_len bt_len (ja_cons (je_var 25) ja_nil)) je_int)) (je_var 29))))) ja_nil)))))))) (jss_one (js_retW je_bl)) jss_nil) (jss_one (js_retW (je_cmp (op_eqU (K := K) hr) lo_eq (je_ix (K := K) hr (JL.vl (jl_sorted (K := K) (by rfl) B.n_sorted (ja_cons (je_var 25) ja_nil))) (je_un un_neg lo_neg je_int) (fun _ _ => rfl)) (je_ix (K := K) hr (je_var 25) (je_bm (K := K) PySem.F.plainAttrs_list PySem.F.slot_list_index PySem.F.type_list_index (mt_indexK (K := K) hr) okT_L lm_index (je_var 26) (ja_cons (je_callB (cb_max (K := K)) lc_maxU (by rfl) B.n_max bt_max (ja_cons (je_var 26) ja_nil)) ja_nil)) (fun _ _ => rfl)) (nomark _))))))))))))))))))))))))))⟩
end
end F
set_option autoImplicit false
namespace F
open PySem PySem.Spec PyProof.Rows L2 DL
/-! ### the head -/
def fn0 : List He.DefD := [⟨("side_of", none), "side_of", "side_of", defArgs s_side_of, defBody s_side_of, defScope s_side_of, [], []⟩, ⟨("needed", none), "needed", "needed", defArgs s_needed, defBody s_needed, defScope s_needed, [], []⟩, ⟨("worth_of", none), "worth_of", "worth_of", defArgs s_worth_of, defBody s_worth_of, defScope s_worth_of, [], []⟩, ⟨("made_score", none), "made_score", "made_score", defArgs s_made_score, defBody s_made_score, defScope s_made_score, [], []⟩, ⟨("lost_score", none), "lost_score", "lost_score", defArgs s_lost_score, defBody s_lost_score, defScope s_lost_score, [], []⟩, ⟨("score", none), "score", "score", defArgs s_score, defBody s_score, defScope s_score, [], []⟩, ⟨("score_for", none), "score_for", "score_for", defArgs s_score_for, defBody s_score_for, defScope s_score_for, [], []⟩, ⟨("compared", none), "compared", "compared", defArgs s_compared, defBody s_compared, defScope s_compared, [], []⟩, ⟨("bids_of", none), "bids_of", "bids_of", defArgs s_bids_of, defBody s_bids_of, defScope s_bids_of, [], []⟩, ⟨("Auction", some "__init__"), "__init__", "Auction.__init__", defArgs s_Auction___init__, defBody s_Auction___init__, defScope s_Auction___init__, [], []⟩, ⟨("Auction", some "player_of"), "player_of", "Auction.player_of", defArgs s_Auction_player_of, defBody s_Auction_player_of, defScope s_Auction_player_of, [], []⟩, ⟨("Auction", some "turn"), "turn", "Auction.turn", defArgs s_Auction_turn, defBody s_Auction_turn, defScope s_Auction_turn, [], []⟩, ⟨("Auction", some "calls"), "calls", "Auction.calls", defArgs s_Auction_calls, defBody s_Auction_calls, defScope s_Auction_calls, [], []⟩, ⟨("Auction", some "last"), "last", "Auction.last", defArgs s_Auction_last, defBody s_Auction_last, defScope s_Auction_last, [], []⟩, ⟨("Auction", some "last_bid"), "last_bid", "Auction.last_bid", defArgs s_Auction_last_bid, defBody s_Auction_last_bid, defScope s_Auction_last_bid, [], []⟩, ⟨("Auction", some "is_over"), "is_over", "Auction.is_over", defArgs s_Auction_is_over, defBody s_Auction_is_over, defScope s_Auction_is_over, [], []⟩, ⟨("Auction", some "legal"), "legal", "Auction.legal", defArgs s_Auction_legal, defBody s_Auction_legal, defScope s_Auction_legal, [], []⟩, ⟨("Auction", some "call"), "call", "Auction.call", defArgs s_Auction_call, defBody s_Auction_call, defScope s_Auction_call, [], []⟩, ⟨("Auction", some "contract"), "contract", "Auction.contract", defArgs s_Auction_contract, defBody s_Auction_contract, defScope s_Auction_contract, [], []⟩, ⟨("call_text", none), "call_text", "call_text", defArgs s_call_text, defBody s_call_text, defScope s_call_text, [], []⟩]
def fn1 : List He.DefD := [⟨("read_call", none), "read_call", "read_call", defArgs s_read_call, defBody s_read_call, defScope s_read_call, [], []⟩, ⟨("_law_cell", none), "_law_cell", "_law_cell", defArgs s__law_cell, defBody s__law_cell, defScope s__law_cell, [], []⟩, ⟨("_law_numbers", none), "_law_numbers", "_law_numbers", defArgs s__law_numbers, defBody s__law_numbers, defScope s__law_numbers, [], []⟩, ⟨("_law_pool", none), "_law_pool", "_law_pool", defArgs s__law_pool, defBody s__law_pool, defScope s__law_pool, [], []⟩, ⟨("_law_draw", none), "_law_draw", "_law_draw", defArgs s__law_draw, defBody s__law_draw, defScope s__law_draw, [], []⟩, ⟨("_law_kind", none), "_law_kind", "_law_kind", defArgs s__law_kind, defBody s__law_kind, defScope s__law_kind, [], []⟩, ⟨("_law_equal", none), "_law_equal", "_law_equal", defArgs s__law_equal, defBody s__law_equal, defScope s__law_equal, [], []⟩, ⟨("_law_call", none), "_law_call", "_law_call", defArgs s__law_call, defBody s__law_call, defScope s__law_call, [], []⟩, ⟨("law", none), "law", "law", defArgs s_law, defBody s_law, defScope s_law, [], []⟩]
def fn : List He.DefD := fn0 ++ fn1
abbrev ddOf (i : Nat) : He.DefD := fn.getD i ⟨("", none), "", "", defArgs (top 0), [], defScope (top 0), [], []⟩
def fa0 : List He.Fa := [.free "range", .free "len", .free "list", .free "enumerate", .free "str", .free "int", .free "max", .free "min", .free "isinstance", .free "bool", .free "tuple", .free "sum", .free "sorted", .glo "PASS", .glo "DOUBLE", .glo "REDOUBLE", .str "LETTERS" "cdhs", .glo "TEXTS", .glo "Auction", .cls "Auction"]
def fa1 : List He.Fa := [.noat "Auction" "_bids", .noat "Auction" "_dealer", .noat "Auction" "_calls", .glo "side_of", .glo "needed", .glo "worth_of", .glo "made_score", .glo "lost_score", .glo "score", .glo "score_for", .glo "compared", .glo "bids_of", .mkr "Auction", .meth "Auction" "player_of", .meth "Auction" "turn", .meth "Auction" "calls", .meth "Auction" "last", .meth "Auction" "last_bid", .meth "Auction" "is_over", .meth "Auction" "legal"]
def fa2 : List He.Fa := [.meth "Auction" "call", .meth "Auction" "contract", .glo "call_text", .glo "read_call", .glo "_law_cell", .glo "_law_numbers", .glo "_law_pool", .glo "_law_draw", .glo "_law_kind", .glo "_law_equal", .glo "_law_call", .glo "law"]
def fa : List He.Fa := fa0 ++ fa1 ++ fa2
def ts : List He.Tab := [(fun K => He.ga K "TEXTS", ["P", "X", "XX"])]
def bx (K : PySem.W.Frag) : Bool := He.tupB K "PASS" [.str "pass"] && He.tupB K "DOUBLE" [.str "double"] && He.tupB K "REDOUBLE" [.str "redouble"] && He.valsB K (He.ga K "TEXTS") [("P", .glo "PASS"), ("X", .glo "DOUBLE"), ("XX", .glo "REDOUBLE")] && true
def loose0 : List Str := ["FinesseError", "InvalidText", "AuctionOver", "AuctionNotOver", "IllegalCall", "LETTERS", "side_of", "needed", "worth_of", "made_score", "lost_score", "score", "score_for", "compared", "PASS", "DOUBLE", "REDOUBLE", "TEXTS", "bids_of", "Auction"]
def loose1 : List Str := ["call_text", "read_call", "_law_cell", "_law_numbers", "_law_pool", "_law_draw", "_law_kind", "_law_equal", "_law_call"]
def loose : List Str := loose0 ++ loose1
abbrev R : PySem.W.OpenRow := PySem.W.OpenLaw.row PySem.Challenge.rw_finesse_k90_whole_scores_of_auctions
abbrev hk : PySem.W.Hook := DLH.hookM 6 fa fn ts bx
def ob (s : PySem.W.SharedT) : DLH.AlM := DLH.obsMG 6 fa fn ts bx (HandSHeadRun.getT s)
theorem ob_eq (s : PySem.W.SharedT) : ob s = hk.obs s.abs := DLH.obsMG_eq (HandSHeadRun.getT_eq s)
theorem run_false (w : World) : HandSHeadRun.RunEq R (PySem.W.view R.prog [34]) hk ob 3000 loose (w.withFollow "special-get-raises" false) := by
  intro os
  kernel_rfl
theorem run_true (w : World) : HandSHeadRun.RunEq R (PySem.W.view R.prog [34]) hk ob 3000 loose (w.withFollow "special-get-raises" true) := by
  intro os
  kernel_rfl
theorem run (w : World) : HandSHeadRun.RunEq R (PySem.W.view R.prog [34]) hk ob 3000 loose w := PySem.W.byRow2 "special-get-raises" (P := fun w => HandSHeadRun.RunEq R (PySem.W.view R.prog [34]) hk ob 3000 loose w) run_false run_true w
open He in
theorem facts {P : Program} {w : World} {K : PySem.W.Frag} {h : Heap} {mg : Str → Option Value} {f : Addr} (X : K.In h) (G : h.Ns mainGlobals mg) (hfa : mg ("law" : Str) = some (.ref f)) (c : DLH.SaysM fa fn ts bx w K) :
    ∃ fd : FuncData, (∀ (s : Shared) (v : Value), BindsTo s fd ⟨[v], []⟩ [("script", v)]) ∧ ∀ base : Heap, K.In base → base.Ns mainGlobals mg → FnOk P w K mg base CX0 31 f fd ["script"] (liftSp K sp_law) := by
  have bxx : bx K = true := c.b
  simp only [bx, Bool.and_eq_true] at bxx
  obtain ⟨⟨⟨⟨BX0, BX1⟩, BX2⟩, BX3⟩, _⟩ := bxx
  have e := hfa.symm.trans (glo_ok X G (c.d.fact 51 (f := .glo "law") rfl))
  cases e
  obtain ⟨fd_law, D_law⟩ := c.d.def_ 28 (d := ddOf 28) rfl
  refine ⟨fd_law, fun s v => D_law.bindsA (ps := ["script"]) (fun _ _ _ _ _ _ us hl => match us, hl with | [_], _ => rfl) s [v] rfl, fun base _ _ => ?_⟩
  have B : Blt mg := ⟨free_ok X G (c.d.fact 0 (f := .free "range") rfl), free_ok X G (c.d.fact 1 (f := .free "len") rfl), free_ok X G (c.d.fact 2 (f := .free "list") rfl), free_ok X G (c.d.fact 3 (f := .free "enumerate") rfl), free_ok X G (c.d.fact 4 (f := .free "str") rfl), free_ok X G (c.d.fact 5 (f := .free "int") rfl), free_ok X G (c.d.fact 6 (f := .free "max") rfl), free_ok X G (c.d.fact 7 (f := .free "min") rfl), free_ok X G (c.d.fact 8 (f := .free "isinstance") rfl), free_ok X G (c.d.fact 9 (f := .free "bool") rfl), free_ok X G (c.d.fact 10 (f := .free "tuple") rfl), free_ok X G (c.d.fact 11 (f := .free "sum") rfl), free_ok X G (c.d.fact 12 (f := .free "sorted") rfl)⟩
  have g_PASS : GlobD K mg "PASS" v_PASS := DLH.glob_tup X G (c.d.fact 13 (f := .glo "PASS") rfl) BX0 rfl
  have g_DOUBLE : GlobD K mg "DOUBLE" v_DOUBLE := DLH.glob_tup X G (c.d.fact 14 (f := .glo "DOUBLE") rfl) BX1 rfl
  have g_REDOUBLE : GlobD K mg "REDOUBLE" v_REDOUBLE := DLH.glob_tup X G (c.d.fact 15 (f := .glo "REDOUBLE") rfl) BX2 rfl
  have g_LETTERS : GlobD K mg "LETTERS" v_LETTERS := DLH.glob_str X G (c.d.fact 16 (f := .str "LETTERS" "cdhs") rfl)
  have tb_TEXTS : TabD K mg w "TEXTS" v_TEXTS := DLH.tab_of (kvs := [("P", .glo "PASS"), ("X", .glo "DOUBLE"), ("XX", .glo "REDOUBLE")]) X G (c.d.fact 17 (f := .glo "TEXTS") rfl) (c.tab 0) BX3 rfl fun z d hz => by
    rcases List.mem_cons.mp hz with e | hz
    · obtain ⟨rfl, rfl⟩ := Prod.mk.inj e
      exact ⟨_, .head _, fun G => DLH.tup_rp BX0 rfl G⟩
    rcases List.mem_cons.mp hz with e | hz
    · obtain ⟨rfl, rfl⟩ := Prod.mk.inj e
      exact ⟨_, .tail _ (.head _), fun G => DLH.tup_rp BX1 rfl G⟩
    rcases List.mem_cons.mp hz with e | hz
    · obtain ⟨rfl, rfl⟩ := Prod.mk.inj e
      exact ⟨_, .tail _ (.tail _ (.head _)), fun G => DLH.tup_rp BX2 rfl G⟩
    cases hz
  have fo_Auction___bids : FldOk K ["Auction"] "_bids" := (DLH.fld_of (c.d.fact 18 (f := .glo "Auction") rfl) (c.d.fact 19 (f := .cls "Auction") rfl) (c.d.fact 20 (f := .noat "Auction" "_bids") rfl))
  have fo_Auction___dealer : FldOk K ["Auction"] "_dealer" := (DLH.fld_of (c.d.fact 18 (f := .glo "Auction") rfl) (c.d.fact 19 (f := .cls "Auction") rfl) (c.d.fact 21 (f := .noat "Auction" "_dealer") rfl))
  have fo_Auction___calls : FldOk K ["Auction"] "_calls" := (DLH.fld_of (c.d.fact 18 (f := .glo "Auction") rfl) (c.d.fact 19 (f := .cls "Auction") rfl) (c.d.fact 22 (f := .noat "Auction" "_calls") rfl))
  obtain ⟨fd_side_of, D_side_of⟩ := c.d.def_ 0 (d := ddOf 0) rfl
  have F_side_of : Fun K "side_of" "side_of" s_side_of _ fd_side_of := DLH.fun_of D_side_of
  have N_side_of_b : Binds K fd_side_of ["player"] [] := F_side_of.binds fun _ _ _ _ _ _ us hl => match us, hl with | [_], _ => rfl
  have c_side_of : FnT P w K mg base 1 "side_of" sp_side_of := DLH.mkFnT F_side_of rfl (fn_ok F_side_of sc_side_of (fun ds S P h => by (repeat (obtain ⟨_, h⟩ := h)); all_goals (subst_vars; rfl)) (b_side_of ) m_side_of) X G (c.d.fact 23 (f := .glo "side_of") rfl) N_side_of_b
  obtain ⟨fd_needed, D_needed⟩ := c.d.def_ 1 (d := ddOf 1) rfl
  have F_needed : Fun K "needed" "needed" s_needed _ fd_needed := DLH.fun_of D_needed
  have N_needed_b : Binds K fd_needed ["size", "level"] [] := F_needed.binds fun _ _ _ _ _ _ us hl => match us, hl with | [_, _], _ => rfl
  have c_needed : FnT P w K mg base 1 "needed" sp_needed := DLH.mkFnT F_needed rfl (fn_ok F_needed sc_needed (fun ds S P h => by (repeat (obtain ⟨_, h⟩ := h)); all_goals (subst_vars; rfl)) (b_needed ) m_needed) X G (c.d.fact 24 (f := .glo "needed") rfl) N_needed_b
  obtain ⟨fd_worth_of, D_worth_of⟩ := c.d.def_ 2 (d := ddOf 2) rfl
  have F_worth_of : Fun K "worth_of" "worth_of" s_worth_of _ fd_worth_of := DLH.fun_of D_worth_of
  have N_worth_of_b : Binds K fd_worth_of ["suits", "strain"] [] := F_worth_of.binds fun _ _ _ _ _ _ us hl => match us, hl with | [_, _], _ => rfl
  have c_worth_of : FnT P w K mg base 1 "worth_of" sp_worth_of := DLH.mkFnT F_worth_of rfl (fn_ok F_worth_of sc_worth_of (fun ds S P h => by (repeat (obtain ⟨_, h⟩ := h)); all_goals (subst_vars; rfl)) (b_worth_of ) m_worth_of) X G (c.d.fact 25 (f := .glo "worth_of") rfl) N_worth_of_b
  obtain ⟨fd_made_score, D_made_score⟩ := c.d.def_ 3 (d := ddOf 3) rfl
  have F_made_score : Fun K "made_score" "made_score" s_made_score _ fd_made_score := DLH.fun_of D_made_score
  have N_made_score_b : Binds K fd_made_score ["suits", "size", "contract", "extra", "is_vulnerable"] [] := F_made_score.binds fun _ _ _ _ _ _ us hl => match us, hl with | [_, _, _, _, _], _ => rfl
  have c_made_score : FnT P w K mg base 2 "made_score" sp_made_score := DLH.mkFnT F_made_score rfl (fn_ok F_made_score sc_made_score (fun ds S P h => by (repeat (obtain ⟨_, h⟩ := h)); all_goals (subst_vars; rfl)) (b_made_score c_worth_of) m_made_score) X G (c.d.fact 26 (f := .glo "made_score") rfl) N_made_score_b
  obtain ⟨fd_lost_score, D_lost_score⟩ := c.d.def_ 4 (d := ddOf 4) rfl
  have F_lost_score : Fun K "lost_score" "lost_score" s_lost_score _ fd_lost_score := DLH.fun_of D_lost_score
  have N_lost_score_b : Binds K fd_lost_score ["doubled", "missing", "is_vulnerable"] [] := F_lost_score.binds fun _ _ _ _ _ _ us hl => match us, hl with | [_, _, _], _ => rfl
  have c_lost_score : FnT P w K mg base 1 "lost_score" sp_lost_score := DLH.mkFnT F_lost_score rfl (fn_ok F_lost_score sc_lost_score (fun ds S P h => by (repeat (obtain ⟨_, h⟩ := h)); all_goals (subst_vars; rfl)) (b_lost_score B) m_lost_score) X G (c.d.fact 27 (f := .glo "lost_score") rfl) N_lost_score_b
  obtain ⟨fd_score, D_score⟩ := c.d.def_ 5 (d := ddOf 5) rfl
  have F_score : Fun K "score" "score" s_score _ fd_score := DLH.fun_of D_score
  have N_score_b : Binds K fd_score ["suits", "size", "contract", "tricks", "vulnerable"] [] := F_score.binds fun _ _ _ _ _ _ us hl => match us, hl with | [_, _, _, _, _], _ => rfl
  have c_score : FnT P w K mg base 3 "score" sp_score := DLH.mkFnT F_score rfl (fn_ok F_score sc_score (fun ds S P h => by (repeat (obtain ⟨_, h⟩ := h)); all_goals (subst_vars; rfl)) (b_score c_needed c_side_of c_made_score c_lost_score) m_score) X G (c.d.fact 28 (f := .glo "score") rfl) N_score_b
  obtain ⟨fd_score_for, D_score_for⟩ := c.d.def_ 6 (d := ddOf 6) rfl
  have F_score_for : Fun K "score_for" "score_for" s_score_for _ fd_score_for := DLH.fun_of D_score_for
  have N_score_for_b : Binds K fd_score_for ["suits", "size", "contract", "tricks", "vulnerable", "side"] [] := F_score_for.binds fun _ _ _ _ _ _ us hl => match us, hl with | [_, _, _, _, _, _], _ => rfl
  have c_score_for : FnT P w K mg base 4 "score_for" sp_score_for := DLH.mkFnT F_score_for rfl (fn_ok F_score_for sc_score_for (fun ds S P h => by (repeat (obtain ⟨_, h⟩ := h)); all_goals (subst_vars; rfl)) (b_score_for c_score c_side_of) m_score_for) X G (c.d.fact 29 (f := .glo "score_for") rfl) N_score_for_b
  obtain ⟨fd_compared, D_compared⟩ := c.d.def_ 7 (d := ddOf 7) rfl
  have F_compared : Fun K "compared" "compared" s_compared _ fd_compared := DLH.fun_of D_compared
  have N_compared_b : Binds K fd_compared ["scores"] [] := F_compared.binds fun _ _ _ _ _ _ us hl => match us, hl with | [_], _ => rfl
  have c_compared : FnT P w K mg base 1 "compared" sp_compared := DLH.mkFnT F_compared rfl (fn_ok F_compared sc_compared (fun ds S P h => by (repeat (obtain ⟨_, h⟩ := h)); all_goals (subst_vars; rfl)) (b_compared B) m_compared) X G (c.d.fact 30 (f := .glo "compared") rfl) N_compared_b
  obtain ⟨fd_bids_of, D_bids_of⟩ := c.d.def_ 8 (d := ddOf 8) rfl
  have F_bids_of : Fun K "bids_of" "bids_of" s_bids_of _ fd_bids_of := DLH.fun_of D_bids_of
  have N_bids_of_b : Binds K fd_bids_of ["suits", "size"] [] := F_bids_of.binds fun _ _ _ _ _ _ us hl => match us, hl with | [_, _], _ => rfl
  have c_bids_of : FnT P w K mg base 1 "bids_of" sp_bids_of := DLH.mkFnT F_bids_of rfl (fn_ok F_bids_of sc_bids_of (fun ds S P h => by (repeat (obtain ⟨_, h⟩ := h)); all_goals (subst_vars; rfl)) (b_bids_of B) m_bids_of) X G (c.d.fact 31 (f := .glo "bids_of") rfl) N_bids_of_b
  obtain ⟨fd_Auction___init__, D_Auction___init__⟩ := c.d.def_ 9 (d := ddOf 9) rfl
  have F_Auction___init__ : Fun K "__init__" "Auction.__init__" s_Auction___init__ _ fd_Auction___init__ := DLH.fun_of D_Auction___init__
  have N_Auction___init___b : Binds K fd_Auction___init__ ["self", "suits", "size", "dealer"] [] := F_Auction___init__.binds fun _ _ _ _ _ _ us hl => match us, hl with | [_, _, _, _], _ => rfl
  have m_Auction : MkT P w K mg base 2 "Auction" sp_Auction___init__ := DLH.mkMkT rfl (fn_ok F_Auction___init__ sc_Auction___init__ (fun ds S P h => by (repeat (obtain ⟨_, h⟩ := h)); all_goals (subst_vars; rfl)) (b_Auction___init__ c_bids_of fo_Auction___bids fo_Auction___dealer fo_Auction___calls) m_Auction___init__) X G (c.d.fact 18 (f := .glo "Auction") rfl) (c.d.fact 32 (f := .mkr "Auction") rfl) N_Auction___init___b
  obtain ⟨fd_Auction_player_of, D_Auction_player_of⟩ := c.d.def_ 10 (d := ddOf 10) rfl
  have F_Auction_player_of : Fun K "player_of" "Auction.player_of" s_Auction_player_of _ fd_Auction_player_of := DLH.fun_of D_Auction_player_of
  have N_Auction_player_of_b : Binds K fd_Auction_player_of ["self", "at"] [] := F_Auction_player_of.binds fun _ _ _ _ _ _ us hl => match us, hl with | [_, _], _ => rfl
  have t_Auction_player_of : MtT P w K mg base 1 ["Auction"] "player_of" sp_Auction_player_of := DLH.mkMtT rfl (fn_ok F_Auction_player_of sc_Auction_player_of (fun ds S P h => by (repeat (obtain ⟨_, h⟩ := h)); all_goals (subst_vars; rfl)) (b_Auction_player_of fo_Auction___dealer) m_Auction_player_of) (c.d.fact 18 (f := .glo "Auction") rfl) (c.d.fact 19 (f := .cls "Auction") rfl) (c.d.fact 33 (f := .meth "Auction" "player_of") rfl) N_Auction_player_of_b
  obtain ⟨fd_Auction_turn, D_Auction_turn⟩ := c.d.def_ 11 (d := ddOf 11) rfl
  have F_Auction_turn : Fun K "turn" "Auction.turn" s_Auction_turn _ fd_Auction_turn := DLH.fun_of D_Auction_turn
  have N_Auction_turn_b : Binds K fd_Auction_turn ["self"] [] := F_Auction_turn.binds fun _ _ _ _ _ _ us hl => match us, hl with | [_], _ => rfl
  have t_Auction_turn : MtT P w K mg base 2 ["Auction"] "turn" sp_Auction_turn := DLH.mkMtT rfl (fn_ok F_Auction_turn sc_Auction_turn (fun ds S P h => by (repeat (obtain ⟨_, h⟩ := h)); all_goals (subst_vars; rfl)) (b_Auction_turn t_Auction_player_of fo_Auction___calls B) m_Auction_turn) (c.d.fact 18 (f := .glo "Auction") rfl) (c.d.fact 19 (f := .cls "Auction") rfl) (c.d.fact 34 (f := .meth "Auction" "turn") rfl) N_Auction_turn_b
  obtain ⟨fd_Auction_calls, D_Auction_calls⟩ := c.d.def_ 12 (d := ddOf 12) rfl
  have F_Auction_calls : Fun K "calls" "Auction.calls" s_Auction_calls _ fd_Auction_calls := DLH.fun_of D_Auction_calls
  have N_Auction_calls_b : Binds K fd_Auction_calls ["self"] [] := F_Auction_calls.binds fun _ _ _ _ _ _ us hl => match us, hl with | [_], _ => rfl
  have t_Auction_calls : MtT P w K mg base 1 ["Auction"] "calls" sp_Auction_calls := DLH.mkMtT rfl (fn_ok F_Auction_calls sc_Auction_calls (fun ds S P h => by (repeat (obtain ⟨_, h⟩ := h)); all_goals (subst_vars; rfl)) (b_Auction_calls fo_Auction___calls B) m_Auction_calls) (c.d.fact 18 (f := .glo "Auction") rfl) (c.d.fact 19 (f := .cls "Auction") rfl) (c.d.fact 35 (f := .meth "Auction" "calls") rfl) N_Auction_calls_b
  obtain ⟨fd_Auction_last, D_Auction_last⟩ := c.d.def_ 13 (d := ddOf 13) rfl
  have F_Auction_last : Fun K "last" "Auction.last" s_Auction_last _ fd_Auction_last := DLH.fun_of D_Auction_last
  have N_Auction_last_b : Binds K fd_Auction_last ["self"] [] := F_Auction_last.binds fun _ _ _ _ _ _ us hl => match us, hl with | [_], _ => rfl
  have t_Auction_last : MtT P w K mg base 1 ["Auction"] "last" sp_Auction_last := DLH.mkMtT rfl (fn_ok F_Auction_last sc_Auction_last (fun ds S P h => by (repeat (obtain ⟨_, h⟩ := h)); all_goals (subst_vars; rfl)) (b_Auction_last fo_Auction___calls g_PASS B) m_Auction_last) (c.d.fact 18 (f := .glo "Auction") rfl) (c.d.fact 19 (f := .cls "Auction") rfl) (c.d.fact 36 (f := .meth "Auction" "last") rfl) N_Auction_last_b
  obtain ⟨fd_Auction_last_bid, D_Auction_last_bid⟩ := c.d.def_ 14 (d := ddOf 14) rfl
  have F_Auction_last_bid : Fun K "last_bid" "Auction.last_bid" s_Auction_last_bid _ fd_Auction_last_bid := DLH.fun_of D_Auction_last_bid
  have N_Auction_last_bid_b : Binds K fd_Auction_last_bid ["self"] [] := F_Auction_last_bid.binds fun _ _ _ _ _ _ us hl => match us, hl with | [_], _ => rfl
  have t_Auction_last_bid : MtT P w K mg base 1 ["Auction"] "last_bid" sp_Auction_last_bid := DLH.mkMtT rfl (fn_ok F_Auction_last_bid sc_Auction_last_bid (fun ds S P h => by (repeat (obtain ⟨_, h⟩ := h)); all_goals (subst_vars; rfl)) (b_Auction_last_bid fo_Auction___calls B) m_Auction_last_bid) (c.d.fact 18 (f := .glo "Auction") rfl) (c.d.fact 19 (f := .cls "Auction") rfl) (c.d.fact 37 (f := .meth "Auction" "last_bid") rfl) N_Auction_last_bid_b
  obtain ⟨fd_Auction_is_over, D_Auction_is_over⟩ := c.d.def_ 15 (d := ddOf 15) rfl
  have F_Auction_is_over : Fun K "is_over" "Auction.is_over" s_Auction_is_over _ fd_Auction_is_over := DLH.fun_of D_Auction_is_over
  have N_Auction_is_over_b : Binds K fd_Auction_is_over ["self"] [] := F_Auction_is_over.binds fun _ _ _ _ _ _ us hl => match us, hl with | [_], _ => rfl
  have t_Auction_is_over : MtT P w K mg base 2 ["Auction"] "is_over" sp_Auction_is_over := DLH.mkMtT rfl (fn_ok F_Auction_is_over sc_Auction_is_over (fun ds S P h => by (repeat (obtain ⟨_, h⟩ := h)); all_goals (subst_vars; rfl)) (b_Auction_is_over t_Auction_last fo_Auction___calls B) m_Auction_is_over) (c.d.fact 18 (f := .glo "Auction") rfl) (c.d.fact 19 (f := .cls "Auction") rfl) (c.d.fact 38 (f := .meth "Auction" "is_over") rfl) N_Auction_is_over_b
  obtain ⟨fd_Auction_legal, D_Auction_legal⟩ := c.d.def_ 16 (d := ddOf 16) rfl
  have F_Auction_legal : Fun K "legal" "Auction.legal" s_Auction_legal _ fd_Auction_legal := DLH.fun_of D_Auction_legal
  have N_Auction_legal_b : Binds K fd_Auction_legal ["self"] [] := F_Auction_legal.binds fun _ _ _ _ _ _ us hl => match us, hl with | [_], _ => rfl
  have t_Auction_legal : MtT P w K mg base 3 ["Auction"] "legal" sp_Auction_legal := DLH.mkMtT rfl (fn_ok F_Auction_legal sc_Auction_legal (fun ds S P h => by (repeat (obtain ⟨_, h⟩ := h)); all_goals (subst_vars; rfl)) (b_Auction_legal t_Auction_is_over t_Auction_last c_side_of t_Auction_player_of t_Auction_turn t_Auction_last_bid fo_Auction___calls fo_Auction___bids g_PASS g_DOUBLE g_REDOUBLE) m_Auction_legal) (c.d.fact 18 (f := .glo "Auction") rfl) (c.d.fact 19 (f := .cls "Auction") rfl) (c.d.fact 39 (f := .meth "Auction" "legal") rfl) N_Auction_legal_b
  obtain ⟨fd_Auction_call, D_Auction_call⟩ := c.d.def_ 17 (d := ddOf 17) rfl
  have F_Auction_call : Fun K "call" "Auction.call" s_Auction_call _ fd_Auction_call := DLH.fun_of D_Auction_call
  have N_Auction_call_b : Binds K fd_Auction_call ["self", "call"] [] := F_Auction_call.binds fun _ _ _ _ _ _ us hl => match us, hl with | [_, _], _ => rfl
  have t_Auction_call : MtT P w K mg base 4 ["Auction"] "call" sp_Auction_call := DLH.mkMtT rfl (fn_ok F_Auction_call sc_Auction_call (fun ds S P h => by (repeat (obtain ⟨_, h⟩ := h)); all_goals (subst_vars; rfl)) (b_Auction_call t_Auction_is_over t_Auction_legal fo_Auction___calls) m_Auction_call) (c.d.fact 18 (f := .glo "Auction") rfl) (c.d.fact 19 (f := .cls "Auction") rfl) (c.d.fact 40 (f := .meth "Auction" "call") rfl) N_Auction_call_b
  obtain ⟨fd_Auction_contract, D_Auction_contract⟩ := c.d.def_ 18 (d := ddOf 18) rfl
  have F_Auction_contract : Fun K "contract" "Auction.contract" s_Auction_contract _ fd_Auction_contract := DLH.fun_of D_Auction_contract
  have N_Auction_contract_b : Binds K fd_Auction_contract ["self"] [] := F_Auction_contract.binds fun _ _ _ _ _ _ us hl => match us, hl with | [_], _ => rfl
  have t_Auction_contract : MtT P w K mg base 3 ["Auction"] "contract" sp_Auction_contract := DLH.mkMtT rfl (fn_ok F_Auction_contract sc_Auction_contract (fun ds S P h => by (repeat (obtain ⟨_, h⟩ := h)); all_goals (subst_vars; rfl)) (b_Auction_contract t_Auction_is_over t_Auction_last_bid t_Auction_last c_side_of t_Auction_player_of fo_Auction___calls B) m_Auction_contract) (c.d.fact 18 (f := .glo "Auction") rfl) (c.d.fact 19 (f := .cls "Auction") rfl) (c.d.fact 41 (f := .meth "Auction" "contract") rfl) N_Auction_contract_b
  obtain ⟨fd_call_text, D_call_text⟩ := c.d.def_ 19 (d := ddOf 19) rfl
  have F_call_text : Fun K "call_text" "call_text" s_call_text _ fd_call_text := DLH.fun_of D_call_text
  have N_call_text_b : Binds K fd_call_text ["suits", "call"] [] := F_call_text.binds fun _ _ _ _ _ _ us hl => match us, hl with | [_, _], _ => rfl
  have c_call_text : FnT P w K mg base 1 "call_text" sp_call_text := DLH.mkFnT F_call_text rfl (fn_ok F_call_text sc_call_text (fun ds S P h => by (repeat (obtain ⟨_, h⟩ := h)); all_goals (subst_vars; rfl)) (b_call_text g_LETTERS B) m_call_text) X G (c.d.fact 42 (f := .glo "call_text") rfl) N_call_text_b
  obtain ⟨fd_read_call, D_read_call⟩ := c.d.def_ 20 (d := ddOf 20) rfl
  have F_read_call : Fun K "read_call" "read_call" s_read_call _ fd_read_call := DLH.fun_of D_read_call
  have N_read_call_b : Binds K fd_read_call ["suits", "text"] [] := F_read_call.binds fun _ _ _ _ _ _ us hl => match us, hl with | [_, _], _ => rfl
  have c_read_call : FnT P w K mg base 1 "read_call" sp_read_call := DLH.mkFnT F_read_call rfl (fn_ok F_read_call sc_read_call (fun ds S P h => by (repeat (obtain ⟨_, h⟩ := h)); all_goals (subst_vars; rfl)) (b_read_call g_LETTERS tb_TEXTS B) m_read_call) X G (c.d.fact 43 (f := .glo "read_call") rfl) N_read_call_b
  obtain ⟨fd__law_cell, D__law_cell⟩ := c.d.def_ 21 (d := ddOf 21) rfl
  have F__law_cell : Fun K "_law_cell" "_law_cell" s__law_cell _ fd__law_cell := DLH.fun_of D__law_cell
  have N__law_cell_b : Binds K fd__law_cell ["script", "k"] [] := F__law_cell.binds fun _ _ _ _ _ _ us hl => match us, hl with | [_, _], _ => rfl
  have c__law_cell : FnT P w K mg base 1 "_law_cell" sp__law_cell := DLH.mkFnT F__law_cell rfl (fn_ok F__law_cell sc__law_cell (fun ds S P h => by (repeat (obtain ⟨_, h⟩ := h)); all_goals (subst_vars; rfl)) (b__law_cell B) m__law_cell) X G (c.d.fact 44 (f := .glo "_law_cell") rfl) N__law_cell_b
  obtain ⟨fd__law_numbers, D__law_numbers⟩ := c.d.def_ 22 (d := ddOf 22) rfl
  have F__law_numbers : Fun K "_law_numbers" "_law_numbers" s__law_numbers _ fd__law_numbers := DLH.fun_of D__law_numbers
  have N__law_numbers_b : Binds K fd__law_numbers ["cell", "many"] [] := F__law_numbers.binds fun _ _ _ _ _ _ us hl => match us, hl with | [_, _], _ => rfl
  have c__law_numbers : FnT P w K mg base 1 "_law_numbers" sp__law_numbers := DLH.mkFnT F__law_numbers rfl (fn_ok F__law_numbers sc__law_numbers (fun ds S P h => by (repeat (obtain ⟨_, h⟩ := h)); all_goals (subst_vars; rfl)) (b__law_numbers B) m__law_numbers) X G (c.d.fact 45 (f := .glo "_law_numbers") rfl) N__law_numbers_b
  obtain ⟨fd__law_pool, D__law_pool⟩ := c.d.def_ 23 (d := ddOf 23) rfl
  have F__law_pool : Fun K "_law_pool" "_law_pool" s__law_pool _ fd__law_pool := DLH.fun_of D__law_pool
  have N__law_pool_b : Binds K fd__law_pool ["script"] [] := F__law_pool.binds fun _ _ _ _ _ _ us hl => match us, hl with | [_], _ => rfl
  have c__law_pool : FnT P w K mg base 2 "_law_pool" sp__law_pool := DLH.mkFnT F__law_pool rfl (fn_ok F__law_pool sc__law_pool (fun ds S P h => by (repeat (obtain ⟨_, h⟩ := h)); all_goals (subst_vars; rfl)) (b__law_pool c__law_numbers c__law_cell B) m__law_pool) X G (c.d.fact 46 (f := .glo "_law_pool") rfl) N__law_pool_b
  obtain ⟨fd__law_draw, D__law_draw⟩ := c.d.def_ 24 (d := ddOf 24) rfl
  have F__law_draw : Fun K "_law_draw" "_law_draw" s__law_draw _ fd__law_draw := DLH.fun_of D__law_draw
  have N__law_draw_b : Binds K fd__law_draw ["pool", "many"] [] := F__law_draw.binds fun _ _ _ _ _ _ us hl => match us, hl with | [_, _], _ => rfl
  have c__law_draw : FnT P w K mg base 1 "_law_draw" sp__law_draw := DLH.mkFnT F__law_draw rfl (fn_ok F__law_draw sc__law_draw (fun ds S P h => by (repeat (obtain ⟨_, h⟩ := h)); all_goals (subst_vars; rfl)) (b__law_draw B) m__law_draw) X G (c.d.fact 47 (f := .glo "_law_draw") rfl) N__law_draw_b
  obtain ⟨fd__law_kind, D__law_kind⟩ := c.d.def_ 25 (d := ddOf 25) rfl
  have F__law_kind : Fun K "_law_kind" "_law_kind" s__law_kind _ fd__law_kind := DLH.fun_of D__law_kind
  have N__law_kind_b : Binds K fd__law_kind ["x"] [] := F__law_kind.binds fun _ _ _ _ _ _ us hl => match us, hl with | [_], _ => rfl
  have c__law_kind : FnT P w K mg base 1 "_law_kind" sp__law_kind := DLH.mkFnT F__law_kind rfl (fn_ok F__law_kind sc__law_kind (fun ds S P h => by (repeat (obtain ⟨_, h⟩ := h)); all_goals (subst_vars; rfl)) (b__law_kind B) m__law_kind) X G (c.d.fact 48 (f := .glo "_law_kind") rfl) N__law_kind_b
  obtain ⟨fd__law_equal, D__law_equal⟩ := c.d.def_ 26 (d := ddOf 26) rfl
  have F__law_equal : Fun K "_law_equal" "_law_equal" s__law_equal _ fd__law_equal := DLH.fun_of D__law_equal
  have N__law_equal_b : Binds K fd__law_equal ["x", "due"] [] := F__law_equal.binds fun _ _ _ _ _ _ us hl => match us, hl with | [_, _], _ => rfl
  have c__law_equal_all : ∀ n : Nat, FnT P w K mg base (n + 1) "_law_equal" (sp__law_equal n) := fun n => by
    induction n with
    | zero => exact DLH.mkFnT F__law_equal rfl (DLH.fn_no F__law_equal sc__law_equal (by rintro ds S P h; (repeat (obtain ⟨_, h⟩ := h)); omega)) X G (c.d.fact 49 (f := .glo "_law_equal") rfl) N__law_equal_b
    | succ n ih => exact DLH.mkFnT F__law_equal rfl (fn_ok F__law_equal sc__law_equal (fun ds S P h => by (repeat (obtain ⟨_, h⟩ := h)); all_goals (subst_vars; rfl)) (b__law_equal c__law_kind ih B) (m__law_equal n)) X G (c.d.fact 49 (f := .glo "_law_equal") rfl) N__law_equal_b
  have c__law_equal := c__law_equal_all 29
  obtain ⟨fd__law_call, D__law_call⟩ := c.d.def_ 27 (d := ddOf 27) rfl
  have F__law_call : Fun K "_law_call" "_law_call" s__law_call _ fd__law_call := DLH.fun_of D__law_call
  have N__law_call_b : Binds K fd__law_call ["suits", "call"] [] := F__law_call.binds fun _ _ _ _ _ _ us hl => match us, hl with | [_, _], _ => rfl
  have c__law_call : FnT P w K mg base 1 "_law_call" sp__law_call := DLH.mkFnT F__law_call rfl (fn_ok F__law_call sc__law_call (fun ds S P h => by (repeat (obtain ⟨_, h⟩ := h)); all_goals (subst_vars; rfl)) (b__law_call B) m__law_call) X G (c.d.fact 50 (f := .glo "_law_call") rfl) N__law_call_b
  have F_law : Fun K "law" "law" s_law _ fd_law := DLH.fun_of D_law
  have N_law_b : Binds K fd_law ["script"] [] := F_law.binds fun _ _ _ _ _ _ us hl => match us, hl with | [_], _ => rfl
  have ok_law : FnOk P w K mg base CX0 31 _ fd_law ["script"] (liftSp K sp_law) := fn_ok F_law sc_law (fun ds S P h => by (repeat (obtain ⟨_, h⟩ := h)); all_goals (subst_vars; rfl)) (b_law c__law_pool c__law_draw m_Auction t_Auction_is_over t_Auction_legal t_Auction_call t_Auction_calls c_call_text c__law_equal c__law_call c_read_call t_Auction_contract c_score c_needed c_score_for c_compared B) m_law
  exact ok_law
end F
open PySem PySem.W PySem.Calls PyProof.Rows
theorem PySem.Challenge.cw_finesse_k90_whole_scores_of_auctions_holds : PySem.Challenge.rw_finesse_k90_whole_scores_of_auctions.Holds := by
  w_on; o_law
  refine HandSHeadRun.head_any (r := OpenLaw.row PySem.Challenge.rw_finesse_k90_whole_scores_of_auctions) (q := view (OpenLaw.row PySem.Challenge.rw_finesse_k90_whole_scores_of_auctions).prog [34]) (H := F.hk) (ob := F.ob) (M := 3000) (loose := F.loose) (d := HandSHeadRun.topDef (OpenLaw.row PySem.Challenge.rw_finesse_k90_whole_scores_of_auctions).prog 34) (kwd := []) F.ob_eq
    (by kernel_rfl) (fun s => by kernel_rfl) F.run (by kernel_rfl) (by kernel_rfl) (by kernel_rfl) (by rfl) (by first | assumption | decide +kernel) (by decide +kernel) ⟨rfl, rfl, rfl, rfl, rfl, by decide +kernel⟩ ?hw ?hc
  case hw => w_witness2
  case hc =>
    refine L2.walk_ofE (l := PySem.Challenge.rw_finesse_k90_whole_scores_of_auctions) (n := 63) (k := 31) (x := "script") (CX := L2.CX0) rfl (by decide) (by kernel_rfl) ⟨rfl, by decide, by decide⟩ ?F (fun _ _ _ _ z => z)
    intro w mg fa h Y G hmg0
    obtain ⟨K, KX, c⟩ := Y
    have hmg : mg ("law" : PySem.Str) = some (.ref fa) := by
      have e : (HandSHeadRun.topDef (OpenLaw.row PySem.Challenge.rw_finesse_k90_whole_scores_of_auctions).prog 34).name = ("law" : PySem.Str) := by kernel_rfl
      rw [← e]
      exact hmg0
    obtain ⟨fd, hb, hF⟩ := F.facts (P := (PySem.Challenge.rw_finesse_k90_whole_scores_of_auctions).prog) (w := w) KX G hmg c
    exact ⟨K, fd, DL.liftSp K DL.sp_law, KX, hb, fun H a ns hl hO hS => DLH.law_start hO hS, hF⟩
