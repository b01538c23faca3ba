import PyProof.Rows.All
import Wide.All
import OpenK.AllK
import Wide.FinOn
import HandS.ForMost
import HandS.Zip
import HandS.TupAny
import HandS.IsInst
import HandS.Defaults
import HandS.MakeKwOnly
import HandS.Exc
import HandS.Conv
import HandS.Style
import HandS.FStr
import KE.GoesEnum
import KE.KDictWalk
import HandS.TupMul
import OpenK.KOps
import PyProof.CallStr
import HandS.SlotsOwn
import HandS.Ends
import PyProof.ReprRoads
import HandS.Text
import PyProof.TupleOfStr
import HandS.RaiseMore
import HandS.TryOnly
import PyProof.ReprLen
import HandS.Words
import HandS.Head0
import HandS.Head1
import HandS.Head2
import HandS.HeadEnd
import HandS.HeadHook1
import HandS.HeadHook2
import PySem.Challenge.RW_copyring_k65_instructions_recorded
set_option Elab.async false
set_option linter.all false
set_option maxRecDepth 100000
set_option maxHeartbeats 4000000
/-! Crx1: own layer over HandS: immutable data in an abstract heap, what an expression yields, leaves of it. -/
namespace Crx
open PySem PySem.Spec PyProof.Rows L2

/-- the written part and the classes that the promises speak of -/
structure Md where
  K : PySem.W.Frag
  ring : Addr
  recd : Addr

/-! ### heaps that only grow -/
theorem same_new {H : Hp} {p : Addr} {o : HO} (h : H p = none) : Same H (upd H p o) := fun b u e => by
  rw [upd_ne (ne_of_none e h)]
  exact e
theorem same_mut {H H' : Hp} {p : Addr} {o : HO} (s : Same H H') (h : H p = none) : Same H (upd H' p o) := fun b u e => by
  rw [upd_ne (ne_of_none e h)]
  exact s b u e
theorem same_t {K : PySem.W.Frag} {H H' : Hp} {a : Addr} {xs : List V} (s : Same H H') (h : SqT K H a xs) : SqT K H' a xs := by
  rcases h with (h | ⟨o, h⟩) | h
  · exact .inl (.inl (s _ _ h))
  · exact .inl (.inr ⟨o, s _ _ h⟩)
  · exact .inr h

/-- what never changes is kept: tuples, instances of the one class -/
structure Kp (M : Md) (H H' : Hp) : Prop where
  t : ∀ b xs, Rd H b (.tup xs) → Rd H' b (.tup xs)
  i : ∀ b dx fs, H b = some (.ins M.ring dx fs) → H' b = some (.ins M.ring dx fs)
section
variable {M : Md} {H H1 H2 H' : Hp}
theorem Kp.refl : Kp M H H := ⟨fun _ _ h => h, fun _ _ _ h => h⟩
theorem Kp.trans (a : Kp M H H1) (b : Kp M H1 H2) : Kp M H H2 := ⟨fun c xs h => b.t c xs (a.t c xs h), fun c d f h => b.i c d f (a.i c d f h)⟩
theorem Kp.of (s : Same H H') : Kp M H H' := ⟨fun b xs h => by
  rcases h with h | ⟨o, h⟩
  · exact .inl (s _ _ h)
  · exact .inr ⟨o, s _ _ h⟩, fun b dx fs h => s _ _ h⟩
/-- an object that may change is written -/
theorem Kp.upd {a : Addr} {u o : HO} (h : H a = some u) (h1 : ∀ xs, u ≠ .tup xs) (h2 : ∀ ob xs, u ≠ .frz ob (.tup xs)) (h3 : ∀ dx fs, u ≠ .ins M.ring dx fs) : Kp M H (L2.upd H a o) := ⟨fun b xs e => by
  rcases e with e | ⟨ob, e⟩
  · exact .inl (by rw [upd_ne (ne_of e h fun z => h1 _ z.symm)]; exact e)
  · exact .inr ⟨ob, by rw [upd_ne (ne_of e h fun z => h2 _ _ z.symm)]; exact e⟩, fun b dx fs e => by
  rw [upd_ne (ne_of e h fun z => h3 _ _ z.symm)]
  exact e⟩
theorem Kp.lst {a : Addr} {xs : List V} {o : HO} (h : H a = some (.lst xs)) : Kp M H (L2.upd H a o) := .upd h (fun _ z => nomatch z) (fun _ _ z => nomatch z) (fun _ _ z => nomatch z)
theorem Kp.dT {a : Addr} {kvs : List (List Key × V)} {o : HO} (h : H a = some (.dT kvs)) : Kp M H (L2.upd H a o) := .upd h (fun _ z => nomatch z) (fun _ _ z => nomatch z) (fun _ _ z => nomatch z)
theorem Kp.sq {a : Addr} {xs : List V} (s : Kp M H H') (h : SqT M.K H a xs) : SqT M.K H' a xs := by
  rcases h with h | h
  · exact .inl (s.t _ _ h)
  · exact .inr h
/-- all but the object at a stand -/
def To (a : Addr) (H H' : Hp) : Prop := ∀ b o, b ≠ a → H b = some o → H' b = some o
theorem To.refl {a : Addr} : To a H H := fun _ _ _ h => h
theorem To.trans {a : Addr} (x : To a H H1) (y : To a H1 H2) : To a H H2 := fun b o n h => y b o n (x b o n h)
theorem To.of {a : Addr} (s : Same H H') : To a H H' := fun b o _ h => s b o h
theorem To.kp {a : Addr} {xs : List V} (s : To a H H') (h : H a = some (.lst xs)) : Kp M H H' := ⟨fun b ys e => by
  rcases e with e | ⟨ob, e⟩
  · exact .inl (s _ _ (ne_of e h fun z => nomatch z) e)
  · exact .inr ⟨ob, s _ _ (ne_of e h fun z => nomatch z) e⟩, fun b dx fs e => s _ _ (ne_of e h fun z => nomatch z) e⟩
end

/-! ### immutable data -/
mutual
/-- the value stands for the datum, by tuples alone -/
inductive Dt (M : Md) (H : Hp) : V → PyData → Prop
  | non : Dt M H .non .none
  | bl (b : Bool) : Dt M H (.bl b) (.bool b)
  | int (i : Int) : Dt M H (.int i) (.int i)
  | str (x : Str) : Dt M H (.str x) (.str x)
  | tup {a : Addr} {xs : List V} {ds : List PyData} : SqT M.K H a xs → DtA M H xs ds → Dt M H (.ref a) (.tuple ds)
inductive DtA (M : Md) (H : Hp) : List V → List PyData → Prop
  | nil : DtA M H [] []
  | cons {v : V} {vs : List V} {d : PyData} {ds : List PyData} : Dt M H v d → DtA M H vs ds → DtA M H (v :: vs) (d :: ds)
end
section
variable {M : Md} {H H1 H2 H' : Hp}
mutual
theorem Dt.kp (k : Kp M H H') : ∀ {d : PyData} {v : V}, Dt M H v d → Dt M H' v d
  | .none, _, h => by cases h; exact .non
  | .bool _, _, h => by cases h; exact .bl _
  | .int _, _, h => by cases h; exact .int _
  | .str _, _, h => by cases h; exact .str _
  | .list _, _, h => by cases h
  | .tuple _, _, h => by
    cases h with
    | tup a b => exact .tup (k.sq a) (DtA.kp k b)
  | .dict _, _, h => by cases h
theorem DtA.kp (k : Kp M H H') : ∀ {ds : List PyData} {vs : List V}, DtA M H vs ds → DtA M H' vs ds
  | [], _, h => by cases h; exact .nil
  | _ :: _, _, h => by
    cases h with
    | cons a b => exact .cons (Dt.kp k a) (DtA.kp k b)
end
mutual
/-- where the tuples stand -/
theorem Dt.tt (k : ∀ b xs, Rd H b (.tup xs) → Rd H' b (.tup xs)) : ∀ {d : PyData} {v : V}, Dt M H v d → Dt M H' v d
  | .none, _, h => by cases h; exact .non
  | .bool _, _, h => by cases h; exact .bl _
  | .int _, _, h => by cases h; exact .int _
  | .str _, _, h => by cases h; exact .str _
  | .list _, _, h => by cases h
  | .tuple _, _, h => by
    cases h with
    | tup a b => exact .tup (a.elim (fun z => .inl (k _ _ z)) .inr) (DtA.tt k b)
  | .dict _, _, h => by cases h
theorem DtA.tt (k : ∀ b xs, Rd H b (.tup xs) → Rd H' b (.tup xs)) : ∀ {ds : List PyData} {vs : List V}, DtA M H vs ds → DtA M H' vs ds
  | [], _, h => by cases h; exact .nil
  | _ :: _, _, h => by
    cases h with
    | cons a b => exact .cons (Dt.tt k a) (DtA.tt k b)
end
mutual
theorem Dt.dp : ∀ {d : PyData} {v : V}, Dt M H v d → Dp M.K H v d
  | .none, _, h => by cases h; exact .non
  | .bool _, _, h => by cases h; exact .bl _
  | .int _, _, h => by cases h; exact .int _
  | .str _, _, h => by cases h; exact .str _
  | .list _, _, h => by cases h
  | .tuple _, _, h => by
    cases h with
    | tup a b => exact .tup a (DtA.dp b)
  | .dict _, _, h => by cases h
theorem DtA.dp : ∀ {ds : List PyData} {vs : List V}, DtA M H vs ds → DpAll M.K H vs ds
  | [], _, h => by cases h; exact .nil
  | _ :: _, _, h => by
    cases h with
    | cons a b => exact .cons (Dt.dp a) (DtA.dp b)
end
theorem DtA.len {vs : List V} {ds : List PyData} (h : DtA M H vs ds) : vs.length = ds.length := by
  induction ds generalizing vs with
  | nil => cases h; rfl
  | cons d ds ih =>
    cases h with
    | cons a b => rw [List.length_cons, List.length_cons, ih b]
theorem DtA.app {vs ws : List V} {ds es : List PyData} (h : DtA M H vs ds) (g : DtA M H ws es) : DtA M H (vs ++ ws) (ds ++ es) := by
  induction ds generalizing vs with
  | nil => cases h; exact g
  | cons d ds ih =>
    cases h with
    | cons a b => exact .cons a (ih b)
theorem DtA.take {vs : List V} {ds : List PyData} (h : DtA M H vs ds) : ∀ n : Nat, DtA M H (vs.take n) (ds.take n) := by
  induction ds generalizing vs with
  | nil => cases h; intro n; cases n <;> exact .nil
  | cons d ds ih =>
    cases h with
    | cons a b =>
      intro n
      cases n with
      | zero => exact .nil
      | succ n => exact .cons a (ih b n)
theorem DtA.drop {vs : List V} {ds : List PyData} (h : DtA M H vs ds) : ∀ n : Nat, DtA M H (vs.drop n) (ds.drop n) := by
  induction ds generalizing vs with
  | nil => cases h; intro n; cases n <;> exact .nil
  | cons d ds ih =>
    cases h with
    | cons a b =>
      intro n
      cases n with
      | zero => exact .cons a b
      | succ n => exact ih b n
theorem DtA.get {vs : List V} {ds : List PyData} (h : DtA M H vs ds) : ∀ {n : Nat} {d : PyData}, ds[n]? = some d → ∃ v, vs[n]? = some v ∧ Dt M H v d := by
  induction ds generalizing vs with
  | nil => intro n d e; simp at e
  | cons d ds ih =>
    cases h with
    | cons a b =>
      intro n d' e
      cases n with
      | zero => simp at e; subst e; exact ⟨_, rfl, a⟩
      | succ n => simpa using ih b (by simpa using e)
theorem DtA.get' {vs : List V} {ds : List PyData} (h : DtA M H vs ds) {n : Nat} {v : V} (e : vs[n]? = some v) : ∃ d, ds[n]? = some d ∧ Dt M H v d := by
  have hn : n < ds.length := by rw [← h.len]; exact (List.getElem?_eq_some_iff.mp e).1
  obtain ⟨u, e2, hd⟩ := h.get (List.getElem?_eq_getElem hn)
  rw [e] at e2
  cases e2
  exact ⟨_, List.getElem?_eq_getElem hn, hd⟩
/-- ints -/
theorem DtA.ints : ∀ (ns : List Int), DtA M H (ns.map V.int) (ns.map PyData.int)
  | [] => .nil
  | n :: ns => .cons (.int n) (DtA.ints ns)
theorem DtA.of_ints : ∀ {ns : List Int} {vs : List V}, DtA M H vs (ns.map PyData.int) → vs = ns.map V.int
  | [], _, h => by cases h; rfl
  | n :: ns, _, h => by
    rw [List.map_cons] at h
    cases h with
    | cons a b =>
      cases a
      rw [DtA.of_ints b]
      rfl
theorem DtA.strs : ∀ (ns : List Str), DtA M H (ns.map V.str) (ns.map PyData.str)
  | [] => .nil
  | n :: ns => .cons (.str n) (DtA.strs ns)
theorem Dt.tupI {a : Addr} {ns : List Int} (h : SqT M.K H a (ns.map V.int)) : Dt M H (.ref a) (.tuple (ns.map PyData.int)) := .tup h (.ints ns)
theorem Dt.sqI {v : V} {ns : List Int} (h : Dt M H v (.tuple (ns.map PyData.int))) : ∃ a, v = .ref a ∧ SqT M.K H a (ns.map V.int) := by
  cases h with
  | tup a b => rw [DtA.of_ints b] at a; exact ⟨_, rfl, a⟩
theorem Dt.sq {v : V} {ds : List PyData} (h : Dt M H v (.tuple ds)) : ∃ a xs, v = .ref a ∧ SqT M.K H a xs ∧ DtA M H xs ds := by
  cases h with
  | tup a b => exact ⟨_, _, rfl, a, b⟩
end

/-! ### what an expression yields -/
/-- from H on the value satisfies P, and all that was known is kept -/
def Ev (te : TE) (σ : L2.St) (H : Hp) (P : V → Hp → Prop) : Prop := ∀ Q : VK, (∀ v H', Same H H' → P v H' → Q v H') → te σ H Q
def EvB (tt : TT) (σ : L2.St) (H : Hp) (b : Bool) : Prop := ∀ Q : Bool → Hp → Prop, (∀ H', Same H H' → Q b H') → tt σ H Q
def EvA (ta : TA) (σ : L2.St) (H : Hp) (P : List V → Hp → Prop) : Prop := ∀ Q : List V → Hp → Prop, (∀ vs H', Same H H' → P vs H' → Q vs H') → ta σ H Q
abbrev PV (v : V) : V → Hp → Prop := fun x _ => x = v
abbrev PI (i : Int) : V → Hp → Prop := PV (.int i)
abbrev PB (b : Bool) : V → Hp → Prop := PV (.bl b)
abbrev PD (M : Md) (d : PyData) : V → Hp → Prop := fun x H => Dt M H x d
/-- a list that stands at a place of its own -/
abbrev PL (M : Md) (ds : List PyData) : V → Hp → Prop := fun x H => ∃ p xs, x = .ref p ∧ H p = some (.lst xs) ∧ DtA M H xs ds
section
variable {M : Md} {σ : L2.St} {H : Hp} {ta tb tc te : TE} {tt tu : TT} {P R S : V → Hp → Prop} {x v : V} {b c : Bool}
theorem Ev.imp (h : Ev te σ H P) (k : ∀ v H', Same H H' → P v H' → R v H') : Ev te σ H R := fun Q q => h Q fun v H' s p => q v H' s (k v H' s p)
theorem ev_var {i : Nat} (h : σ[i]? = some (some v)) (p : P v H) : Ev (tVar i) σ H P := fun _ q => ⟨v, h, q v H (Same.refl H) p⟩
theorem ev_c (p : P v H) : Ev (tC v) σ H P := fun _ q => q v H (Same.refl H) p
theorem ev_op {r : R2} (ha : Ev ta σ H P) (hb : ∀ x H1, Same H H1 → P x H1 → Ev tb σ H1 R)
    (hr : ∀ x y H1 H2, Same H H1 → Same H1 H2 → P x H1 → R y H2 → ∀ Q : VK, (∀ v H', Same H2 H' → S v H' → Q v H') → r x y H2 Q) : Ev (tOp r ta tb) σ H S := fun Q q =>
  ha _ fun x H1 s1 p1 => hb x H1 s1 p1 _ fun y H2 s2 p2 => hr x y H1 H2 s1 s2 p1 p2 Q fun v H' s3 p3 => q v H' ((s1.trans s2).trans s3) p3
/-- two scalars -/
theorem ev_vv {r : R2} {y : V} (ha : Ev ta σ H (PV x)) (hb : ∀ H1, Same H H1 → Ev tb σ H1 (PV y)) (hr : ∀ H2, Same H H2 → ∀ Q : VK, (∀ v H', Same H2 H' → S v H' → Q v H') → r x y H2 Q) : Ev (tOp r ta tb) σ H S :=
  ev_op ha (fun _ H1 s1 _ => hb H1 s1) fun x' y' H1 H2 s1 s2 p1 p2 Q q => by
    obtain rfl : x' = x := p1
    obtain rfl : y' = y := p2
    exact hr H2 (s1.trans s2) Q q
theorem ev_i0 {g : Int → Int → V} {i j : Int} (ha : Ev ta σ H (PI i)) (hb : ∀ H1, Same H H1 → Ev tb σ H1 (PI j)) : Ev (tOp (rI0 g) ta tb) σ H (PV (g i j)) :=
  ev_vv ha hb fun H2 _ Q q => ⟨i, j, rfl, rfl, q _ H2 (Same.refl H2) rfl⟩
theorem ev_i {C : Int → Int → Prop} {g : Int → Int → V} {i j : Int} (ha : Ev ta σ H (PI i)) (hb : ∀ H1, Same H H1 → Ev tb σ H1 (PI j)) (hc : C i j) : Ev (tOp (rI C g) ta tb) σ H (PV (g i j)) :=
  ev_vv ha hb fun H2 _ Q q => ⟨i, j, rfl, rfl, hc, q _ H2 (Same.refl H2) rfl⟩
theorem ev_eq {y : V} (ha : Ev ta σ H (PV x)) (hb : ∀ H1, Same H H1 → Ev tb σ H1 (PV y)) (hs : scal x y = true) : Ev (tOp rEq ta tb) σ H (PB (decide (x = y))) :=
  ev_vv ha hb fun H2 _ Q q => ⟨hs, q _ H2 (Same.refl H2) rfl⟩
theorem ev_ne {y : V} (ha : Ev ta σ H (PV x)) (hb : ∀ H1, Same H H1 → Ev tb σ H1 (PV y)) (hs : scal x y = true) : Ev (tOp rNe ta tb) σ H (PB (!decide (x = y))) :=
  ev_vv ha hb fun H2 _ Q q => ⟨hs, q _ H2 (Same.refl H2) rfl⟩
theorem ev_isN (ha : Ev ta σ H (PV x)) : Ev (tOp (fun x y H Q => y = .non ∧ Q (.bl (decide (x = .non))) H) ta (tC .non)) σ H (PB (decide (x = .non))) := fun Q q =>
  ha _ fun x' H1 s1 p1 => ⟨rfl, by
    obtain rfl : x' = x := p1
    exact q _ H1 s1 rfl⟩
theorem ev_notN (ha : Ev ta σ H (PV x)) : Ev (tOp (fun x y H Q => y = .non ∧ Q (.bl (!decide (x = .non))) H) ta (tC .non)) σ H (PB (!decide (x = .non))) := fun Q q =>
  ha _ fun x' H1 s1 p1 => ⟨rfl, by
    obtain rfl : x' = x := p1
    exact q _ H1 s1 rfl⟩
/-- a chain of two comparisons of ints -/
theorem ev_chain {p1 p2 : Int → Int → Bool} {i j k : Int} (ha : Ev ta σ H (PI i)) (hb : ∀ H1, Same H H1 → Ev tb σ H1 (PI j)) (hc : ∀ H1, Same H H1 → Ev tc σ H1 (PI k)) :
    Ev (tChain (rI0 fun i j => .bl (p1 i j)) (rI0 fun i j => .bl (p2 i j)) ta tb tc) σ H (PB (p1 i j && p2 j k)) := fun Q q =>
  ha _ fun x H1 s1 q1 => hb H1 s1 _ fun y H2 s2 q2 => by
    obtain rfl : x = .int i := q1
    obtain rfl : y = .int j := q2
    refine ⟨i, j, rfl, rfl, p1 i j, rfl, ?_⟩
    cases e : p1 i j with
    | true =>
      rw [if_pos rfl]
      refine hc H2 (s1.trans s2) _ fun z H3 s3 q3 => ?_
      obtain rfl : z = .int k := q3
      exact ⟨j, k, rfl, rfl, q _ H3 ((s1.trans s2).trans s3) (by rw [e]; rfl)⟩
    | false =>
      rw [if_neg Bool.false_ne_true]
      exact q _ H2 (s1.trans s2) (by rw [e]; rfl)
theorem ev_andV (ha : Ev ta σ H (PB b)) (hb : b = true → ∀ H1, Same H H1 → Ev tb σ H1 (PB c)) : Ev (tAndV ta tb) σ H (PB (b && c)) := fun Q q =>
  ha _ fun x H1 s1 p1 => ⟨b, p1, by
    cases b with
    | true =>
      rw [if_pos rfl]
      exact hb rfl H1 s1 _ fun v H2 s2 p2 => q v H2 (s1.trans s2) p2
    | false =>
      rw [if_neg Bool.false_ne_true]
      exact q _ H1 s1 rfl⟩
theorem ev_orV (ha : Ev ta σ H (PB b)) (hb : b = false → ∀ H1, Same H H1 → Ev tb σ H1 (PB c)) : Ev (tOrV ta tb) σ H (PB (b || c)) := fun Q q =>
  ha _ fun x H1 s1 p1 => ⟨b, p1, by
    cases b with
    | false =>
      rw [if_neg Bool.false_ne_true]
      exact hb rfl H1 s1 _ fun v H2 s2 p2 => q v H2 (s1.trans s2) p2
    | true =>
      rw [if_pos rfl]
      exact q _ H1 s1 rfl⟩
theorem ev_notV (ha : Ev ta σ H (PB b)) : Ev (tNotV ta) σ H (PB (!b)) := fun Q q =>
  ha _ fun x H1 s1 p1 => ⟨b, p1, q _ H1 s1 rfl⟩
theorem ev_if (hc : EvB tt σ H b) (ha : b = true → ∀ H1, Same H H1 → Ev ta σ H1 P) (hb : b = false → ∀ H1, Same H H1 → Ev tb σ H1 P) : Ev (tIf tt ta tb) σ H P := fun Q q =>
  hc _ fun H1 s1 => by
    cases b with
    | true =>
      rw [if_pos rfl]
      exact ha rfl H1 s1 _ fun v H2 s2 p2 => q v H2 (s1.trans s2) p2
    | false =>
      rw [if_neg Bool.false_ne_true]
      exact hb rfl H1 s1 _ fun v H2 s2 p2 => q v H2 (s1.trans s2) p2
/-! tests -/
theorem eb_test (h : Ev te σ H (PB b)) : EvB (tTest te) σ H b := fun _ q => h _ fun v H1 s1 p => ⟨b, p, q H1 s1⟩
theorem eb_val (h : Ev te σ H (PB b)) : EvB (tB te) σ H b := fun _ q => h _ fun v H1 s1 p => ⟨b, p, q H1 s1⟩
theorem eb_not (h : EvB tt σ H b) : EvB (tNot tt) σ H (!b) := fun _ q => h _ fun H1 s1 => q H1 s1
theorem eb_and (ha : EvB tt σ H b) (hb : b = true → ∀ H1, Same H H1 → EvB tu σ H1 c) : EvB (tAnd tt tu) σ H (b && c) := fun Q q =>
  ha _ fun H1 s1 => by
    cases b with
    | true =>
      rw [if_pos rfl]
      exact hb rfl H1 s1 _ fun H2 s2 => q H2 (s1.trans s2)
    | false =>
      rw [if_neg Bool.false_ne_true]
      exact q H1 s1
theorem eb_or (ha : EvB tt σ H b) (hb : b = false → ∀ H1, Same H H1 → EvB tu σ H1 c) : EvB (tOr tt tu) σ H (b || c) := fun Q q =>
  ha _ fun H1 s1 => by
    cases b with
    | false =>
      rw [if_neg Bool.false_ne_true]
      exact hb rfl H1 s1 _ fun H2 s2 => q H2 (s1.trans s2)
    | true =>
      rw [if_pos rfl]
      exact q H1 s1
theorem EvB.to (h : EvB tt σ H b) (e : b = c) : EvB tt σ H c := e ▸ h
/-! arguments -/
theorem ea_nil : EvA tNil σ H fun vs _ => vs = [] := fun _ q => q [] H (Same.refl H) rfl
theorem ea_cons {tr : TA} {P2 : List V → Hp → Prop} (ha : Ev ta σ H P) (hr : ∀ x H1, Same H H1 → P x H1 → EvA tr σ H1 P2) : EvA (tCons ta tr) σ H fun vs H' => ∃ x xs H1, vs = x :: xs ∧ Same H H1 ∧ P x H1 ∧ Same H1 H' ∧ P2 xs H' := fun Q q =>
  ha _ fun x H1 s1 p1 => hr x H1 s1 p1 _ fun xs H2 s2 p2 => q _ H2 (s1.trans s2) ⟨x, xs, H1, rfl, s1, p1, s2, p2⟩
end
end Crx

set_option maxHeartbeats 4000000
/-! Crx2: short names of readings, calls of own defs, methods, instances made, chains of three. -/
namespace Crx
open PySem PySem.Spec PyProof.Rows L2

/-! ### readings by name -/
abbrev rAddI : R2 := rI0 fun i j => .int (i + j)
abbrev rSubI : R2 := rI0 fun i j => .int (i - j)
abbrev rMulI : R2 := rI CMul fun i j => .int (i * j)
abbrev rModI : R2 := rI (fun _ j => 0 < j) fun i j => .int (i % j)
abbrev rDivI : R2 := rI CDiv fun i j => .int (i / j)
abbrev rPowI : R2 := rI CPow fun i j => .int (i ^ j.toNat)
abbrev rLt : R2 := rI0 fun i j => .bl (decide (i < j))
abbrev rLe : R2 := rI0 fun i j => .bl (decide (i ≤ j))
abbrev rGt : R2 := rI0 fun i j => .bl (decide (j < i))
abbrev rGe : R2 := rI0 fun i j => .bl (decide (j ≤ i))
abbrev rAddS : R2 := fun x y H Q => ∃ i j, x = .str i ∧ y = .str j ∧ i.length + j.length ≤ sizeLine ∧ Q (.str (i ++ j)) H
abbrev rSgIn : R2 := fun x y H Q => ∃ (c : Nat) (z : Str), x = .str ⟨#[c]⟩ ∧ y = .str z ∧ Q (.bl (decide (c ∈ z.cps.toList))) H
abbrev rSgNot : R2 := fun x y H Q => ∃ (c : Nat) (z : Str), x = .str ⟨#[c]⟩ ∧ y = .str z ∧ Q (.bl (!decide (c ∈ z.cps.toList))) H
abbrev rIsNone : R2 := fun x y H Q => y = .non ∧ Q (.bl (decide (x = .non))) H
abbrev rNotNone : R2 := fun x y H Q => y = .non ∧ Q (.bl (!decide (x = .non))) H
abbrev R1 := List V → Hp → VK → Prop
abbrev rLenQ (K : PySem.W.Frag) : R1 := fun xs H Q => ∃ p ys, xs = [.ref p] ∧ (SqL K H p ys ∨ SqT K H p ys) ∧ Q (.int ys.length) H
abbrev rLenZ : R1 := fun xs H Q => ∃ z, xs = [.str z] ∧ z.length ≤ sizeLine ∧ Q (.int z.length) H
abbrev rTupOf (K : PySem.W.Frag) : R1 := fun xs H Q => ∃ p ys, xs = [.ref p] ∧ ((SqL K H p ys ∧ ∀ l, H l = none → Q (.ref l) (upd H l (.tup ys))) ∨ (SqT K H p ys ∧ Q (.ref p) H))
abbrev rLstOf (K : PySem.W.Frag) : R1 := fun xs H Q => ∃ p ys, xs = [.ref p] ∧ (SqL K H p ys ∨ SqT K H p ys) ∧ ∀ l, H l = none → Q (.ref l) (upd H l (.lst ys))
abbrev rStrI : R1 := fun xs H Q => ∃ i, xs = [.int i] ∧ i.natAbs.log2 < 1920 ∧ Q (.str (toString i)) H
abbrev rIntS : R1 := fun xs H Q => ∃ a n, xs = [.str a] ∧ PySem.intText? a = some n ∧ a.length ≤ 640 ∧ Q (.int n) H
abbrev rInt1 : R1 := fun xs H Q => (∃ i, xs = [.int i] ∧ Q (.int i) H) ∨ ∃ k, xs = [.bl k] ∧ Q (.int (if k then 1 else 0)) H
abbrev rAbs : R1 := fun xs H Q => ∃ i, xs = [.int i] ∧ Q (.int (if i < 0 then -i else i)) H
abbrev rMax2 : R1 := fun xs H Q => ∃ i j, xs = [.int i, .int j] ∧ Q (.int (if j > i then j else i)) H
abbrev rMin2 : R1 := fun xs H Q => ∃ i j, xs = [.int i, .int j] ∧ Q (.int (if j < i then j else i)) H
abbrev rDivmod : R1 := fun xs H Q => ∃ i j, xs = [.int i, .int j] ∧ CDiv i j ∧ ∀ p, H p = none → Q (.ref p) (upd H p (.tup [.int (i / j), .int (i % j)]))
abbrev rJoin (K : PySem.W.Frag) : V → List V → Hp → VK → Prop := fun x xs H Q => ∃ a p, ∃ ys : List Str, x = .str a ∧ xs = [.ref p] ∧ (SqL K H p (ys.map V.str) ∨ SqT K H p (ys.map V.str)) ∧ (ys.map (·.length)).sum + ys.length * a.length ≤ 16777216 ∧ Q (.str (Txt.join a ys)) H
abbrev rSplit : V → List V → Hp → VK → Prop := fun x xs H Q => ∃ a b, x = .str a ∧ xs = [.str b] ∧ (b.length == 0) = false ∧ a.length + 2 ≤ sizeLine ∧ rNewStrs (Txt.split a b) H Q
abbrev rInsert : V → List V → Hp → VK → Prop := fun x vs H Q => ∃ (l : Addr) (xs : List V) (i : Int) (y : V), x = .ref l ∧ vs = [.int i, y] ∧ H l = some (.lst xs) ∧ xs.length < sizeLine ∧ 0 ≤ i ∧ i < 2 ^ 63 ∧ Q .non (upd H l (.lst (xs.take i.toNat ++ [y] ++ xs.drop i.toNat)))
def tTru (K : PySem.W.Frag) (ta : TE) : TT := fun σ H Q => ta σ H fun x H' => ∃ k, TruV K x H' k ∧ Q k H'

/-! ### names of the module, of the built-in types -/
section
variable {X : Cx} {x : Str} {pos : Pos}
theorem pe_gi {i : Int} (hg : Gl X x) (hm : ∃ t, X.mg x = some (.int i t)) (hd : (x == ("__debug__" : Str)) = false := by decide) : PE X (.Name x pos) (tC (.int i)) := by
  obtain ⟨t, e⟩ := hm
  exact pe_glob hg e ⟨t, rfl⟩ hd
theorem pe_gs {z : Str} (hg : Gl X x) (hm : ∃ t, X.mg x = some (.str z t)) (hd : (x == ("__debug__" : Str)) = false := by decide) : PE X (.Name x pos) (tC (.str z)) := by
  obtain ⟨t, e⟩ := hm
  exact pe_glob hg e ⟨t, rfl⟩ hd
theorem pe_ty {n : String} (hg : Gl X x) (hm : X.mg x = none) (hv : bootBuiltins x = some (.type n)) (hn : x ≠ "__name__" := by decide) (hd : (x == ("__debug__" : Str)) = false := by decide) : PE X (.Name x pos) (tC (.ty n)) :=
  pe_bltn hg hm hv rfl hn hd
end

/-! ### what a caller knows of a def, a method, a class -/
section
variable (P : Program) (w : World) (K : PySem.W.Frag) (mg : Str → Option Value) (base : Heap)
structure Cal (x : Str) (k : Nat) (ps : List Str) (sp : Sp) : Prop where
  ex : ∃ f fd, FnOk P w K mg base CX0 k f fd ps sp ∧ mg x = some (.ref f) ∧ PySem.W.keepIn K (.ref f) = true ∧ Binds K fd ps []
structure MCal (C : Addr) (m : Str) (k : Nat) (ps : List Str) (sp : Sp) : Prop where
  ex : ∃ f fd, FnOk P w K mg base CX0 k f fd ps sp ∧ Meth K C m f ∧ Cls K C ∧ Binds K fd ps []
/-- called by keywords alone -/
structure CalK (x : Str) (k : Nat) (ks : List Str) (sp : Sp) (gV : List V → List V) : Prop where
  ex : ∃ (f : Addr) (fd : FuncData) (ps : List Str) (g : List Value → List Value), FnOk P w K mg base CX0 k f fd ps sp ∧ mg x = some (.ref f) ∧ PySem.W.keepIn K (.ref f) = true ∧ KBn K fd ps 0 ks (fun _ ws => g ws) (fun _ zs => gV zs)
/-- C(..) -/
structure MkC (x : Str) (C : Addr) (k : Nat) (sp : Sp) : Prop where
  ex : ∃ f fd ps, Mk K C f ∧ FnOk P w K mg base CX0 k f fd ps sp ∧ mg x = some (.ref C) ∧ Binds K fd ps []
/-- C(.., k = v, ..), n values -/
structure MkK (x : Str) (C : Addr) (k n : Nat) (ks : List Str) (sp : Sp) (gV : List V → List V → List V) : Prop where
  ex : ∃ (f : Addr) (fd : FuncData) (ps : List Str) (g : List Value → List Value → List Value), Mk K C f ∧ FnOk P w K mg base CX0 k f fd ps sp ∧ mg x = some (.ref C) ∧ KBn K fd ps (n + 1) ks g gV
end
def tCalK (m : Nat) (sp : Sp) (gV : List V → List V) (tk : TA) : TE := fun σ H Q => tk σ H fun zs H1 => zs.length = m ∧ sp (gV zs) H1 Q E0
/-- the keywords' values in the parameters' order -/
def permK (is : List Nat) (zs : List V) : List V := is.map fun i => zs.getD i .non
section
variable {X : Cx} {x m : Str} {k n nk : Nat} {ps ks : List Str} {sp : Sp} {p pos apos : Pos} {e o : Expr} {es : List Expr} {kws : List Keyword} {t tk : TA} {ta : TE} {C : Addr} {gV : List V → List V → List V} {gW : List V → List V}
theorem pe_cal (c : Cal X.prog X.w X.K X.mg X.base x k ps sp) (hr : Room k X.A) (ha : PA X (e :: es) t) (hg : Gl X x := by rfl) (hdb : (x == ("__debug__" : Str)) = false := by decide)
    (he : starEach (e :: es) X.env = (false, eval e X.env) :: starEach es X.env := by rfl) (hpl : (backTo pos (starEach es X.env)).any (·.1) = false := by rfl) : PE X (.Call (.Name x p) (e :: es) [] pos) (tCall sp [] E0 t) := by
  obtain ⟨f, fd, F, hm, hk, hb⟩ := c.ex
  exact pe_call F hr hg hm hk hb .nil pass0 ha hdb he hpl
theorem pe_cal0 (c : Cal X.prog X.w X.K X.mg X.base x k ps sp) (hr : Room k X.A) (hg : Gl X x := by rfl) (hdb : (x == ("__debug__" : Str)) = false := by decide) : PE X (.Call (.Name x p) [] [] pos) (tCall sp [] E0 tNil) := by
  obtain ⟨f, fd, F, hm, hk, hb⟩ := c.ex
  exact pe_call0 F hr hg hm hk hb .nil pass0 hdb
theorem pe_mk (c : MkC X.prog X.w X.K X.mg X.base x C k sp) (hr : Room (k + 1) X.A) (ha : PA X (e :: es) t) (hg : Gl X x := by rfl) (hdb : (x == ("__debug__" : Str)) = false := by decide)
    (he : starEach (e :: es) X.env = (false, eval e X.env) :: starEach es X.env := by rfl) (hpl : (backTo pos (starEach es X.env)).any (·.1) = false := by rfl) : PE X (.Call (.Name x p) (e :: es) [] pos) (tMake C sp [] E0 t) := by
  obtain ⟨f, fd, ps, Mm, F, hm, hb⟩ := c.ex
  exact pe_make Mm F hr hg hm hb .nil pass0 ha hdb he hpl
theorem pe_mkK0 (c : MkK X.prog X.w X.K X.mg X.base x C k 0 ks sp gV) (hr : Room (k + 1) X.A) (hkw : PK X kws tk) (hg : Gl X x := by rfl)
    (hall : (backToKw pos (keywordEach kws X.env)).all (·.1.isSome) = true := by rfl) (hks : (backToKw pos (keywordEach kws X.env)).filterMap (·.1) = ks := by rfl) (hdb : (x == ("__debug__" : Str)) = false := by decide)
    (hpl : ((backTo pos (starEach [] X.env)).any (·.1) || (backToKw pos (keywordEach kws X.env)).any (·.1.isNone)) = false := by rfl) (hnk : ks.length = nk := by rfl) : PE X (.Call (.Name x p) [] kws pos) (tMakeK C 0 nk sp gV E0 tNil tk) := by
  subst hnk
  obtain ⟨f, fd, ps, g, Mm, F, hm, hb⟩ := c.ex
  exact pe_makeK0 Mm F hr hg hm hb pass0 hkw hall hks hdb hpl
theorem pe_mkK (c : MkK X.prog X.w X.K X.mg X.base x C k n ks sp gV) (hr : Room (k + 1) X.A) (ha : PA X (e :: es) t) (hkw : PK X kws tk) (hg : Gl X x := by rfl)
    (hall : (backToKw pos (keywordEach kws X.env)).all (·.1.isSome) = true := by rfl) (hks : (backToKw pos (keywordEach kws X.env)).filterMap (·.1) = ks := by rfl) (hdb : (x == ("__debug__" : Str)) = false := by decide)
    (he : starEach (e :: es) X.env = (false, eval e X.env) :: starEach es X.env := by rfl)
    (hpl : ((backTo pos (starEach (e :: es) X.env)).any (·.1) || (backToKw pos (keywordEach kws X.env)).any (·.1.isNone)) = false := by rfl) (hnk : ks.length = nk := by rfl) : PE X (.Call (.Name x p) (e :: es) kws pos) (tMakeK C n nk sp gV E0 t tk) := by
  subst hnk
  obtain ⟨f, fd, ps, g, Mm, F, hm, hb⟩ := c.ex
  exact pe_makeK Mm F hr hg hm hb pass0 ha hkw hall hks hdb he hpl
/-- f(k = v, ..) -/
theorem pe_calK0 (c : CalK X.prog X.w X.K X.mg X.base x k ks sp gW) (hr : Room k X.A) (hkw : PK X kws tk) (hg : Gl X x := by rfl)
    (hall : (backToKw pos (keywordEach kws X.env)).all (·.1.isSome) = true := by rfl) (hks : (backToKw pos (keywordEach kws X.env)).filterMap (·.1) = ks := by rfl) (hdb : (x == ("__debug__" : Str)) = false := by decide)
    (hpl : ((backTo pos (starEach [] X.env)).any (·.1) || (backToKw pos (keywordEach kws X.env)).any (·.1.isNone)) = false := by rfl) (hnk : ks.length = nk := by rfl) : PE X (.Call (.Name x p) [] kws pos) (tCalK nk sp gW tk) := by
  subst hnk
  obtain ⟨f, fd, ps, g, F, hm, hk, hb⟩ := c.ex
  refine ⟨fun pins s σ H Q I h => ?_⟩
  refine wpAny_Call_Name_kw (ld_glob I hg hm ?_ hdb)
  refine PySem.W.callWith_KW0 (h₀ := X.base) I.ok.mod.kin hk hall ?_ hpl
  refine thn (hkw.run pos pins s σ H _ I h) fun ws s2 h2 => ?_
  obtain ⟨zs, H2, I2, rz, l2, q2⟩ := h2
  refine ⟨I2.kIn, ?_⟩
  rw [hks]
  exact run_fnN (us := []) (vs := []) F hr hb pass0 I2 .nil rz rfl l2 q2
/-! ### three comparisons in a chain -/
def tChain3 (r1 r2 r3 : R2) (ta tb tc td : TE) : TE := fun σ H Q => ta σ H fun x H1 => tb σ H1 fun y H2 => r1 x y H2 fun z H3 => ∃ k, z = .bl k ∧
  (if k = true then tc σ H3 fun u H4 => r2 y u H4 fun z' H5 => ∃ k', z' = .bl k' ∧ (if k' = true then td σ H5 fun v H6 => r3 u v H6 Q else Q (.bl false) H5) else Q (.bl false) H3)
theorem pt_chain3 {op1 op2 op3 : CmpOp} {r1 r2 r3 : R2} {a b c d : Expr} {ta tb tc td : TE} (h1 : OpR X (compareOp op1) r1) (h2 : OpR X (compareOp op2) r2) (h3 : OpR X (compareOp op3) r3)
    (ha : PE X a ta) (hb : PE X b tb) (hc : PE X c tc) (hd : PE X d td) (hm : lastMarks [op1, op2, op3] [b, c, d] = false := by with_unfolding_all rfl) :
    PT X (.Compare a [op1, op2, op3] [b, c, d] pos) (tTest (tChain3 r1 r2 r3 ta tb tc td)) := by
  refine ⟨fun pins s σ H Q I h => ?_⟩
  refine isTrue_chain (thn (ha.run pins s σ H _ I h) fun v s1 ⟨x, H1, I1, e1, q1⟩ => test_link (thn (hb.run pins s1 σ H1 _ I1 q1) fun u s2 ⟨y, H2, I2, e2, q2⟩ =>
    thn (h1 pins s2 σ H2 x y v u _ I2 e1 e2 q2) fun dv s3 ⟨z, H3, I3, e3, k, ez, q3⟩ => ?_)) hm
  subst ez
  cases e3
  refine wpAny_truthy_bool ?_
  cases k with
  | false =>
    obtain ⟨k', e', q'⟩ := q3
    cases e'
    exact ite_ff ⟨H3, I3, q'⟩
  | true =>
    refine ite_tt (test_link (thn (hc.run pins s3 σ H3 _ I3 q3) fun w' s4 ⟨z4, H4, I4, e4, q4⟩ => thn (h2 pins s4 σ H4 y z4 u w' _ I4 e2 e4 q4) fun dv2 s5 ⟨z5, H5, I5, e5, k5, ez5, q5⟩ => ?_))
    subst ez5
    cases e5
    refine wpAny_truthy_bool ?_
    cases k5 with
    | false =>
      obtain ⟨k', e', q'⟩ := q5
      cases e'
      exact ite_ff ⟨H5, I5, q'⟩
    | true =>
      refine ite_tt (test_last (thn (hd.run pins s5 σ H5 _ I5 q5) fun w6 s6 ⟨z6, H6, I6, e6, q6⟩ => thn (h3 pins s6 σ H6 z4 z6 w' w6 _ I6 e4 e6 q6) fun dv3 s7 ⟨z7, H7, I7, e7, k7, ez7, q7⟩ => ?_))
      subst ez7
      cases e7
      exact wpAny_truthy_bool ⟨H7, I7, q7⟩
end
end Crx

set_option maxHeartbeats 4000000
/-! Crx3: what is walked, comprehensions, loops; operators on data; statements. -/
namespace Crx
open PySem PySem.Spec PyProof.Rows L2 RZ

/-! ### promises -/
/-- what follows holds of every value that satisfies P in every heap that grew from H -/
def Pr (P : V → Hp → Prop) (H : Hp) (Q : VK) : Prop := ∀ v H', Same H H' → P v H' → Q v H'
theorem Pr.s {P : V → Hp → Prop} {H H1 : Hp} {Q : VK} (q : Pr P H Q) (s : Same H H1) : Pr P H1 Q := fun v H' s' p => q v H' (s.trans s') p
theorem Pr.imp {P R : V → Hp → Prop} {H : Hp} {Q : VK} (q : Pr R H Q) (k : ∀ v H', Same H H' → P v H' → R v H') : Pr P H Q := fun v H' s p => q v H' s (k v H' s p)
section
variable {M : Md} {σ : L2.St} {H : Hp} {ta tb tc te ts : TE} {tt : TT} {P R : V → Hp → Prop} {D : Ends} {b : Bool} {i : Nat}
theorem s_ret (h : Ev te σ H P) (q : Pr P H D.rt) : tRet te D σ H := h _ q
theorem s_set (h : Ev te σ H P) (k : ∀ v H', Same H H' → P v H' → D.nx (σ.set i (some v)) H') : tAsg te (gName i) D σ H := h _ k
theorem s_drop (h : Ev te σ H P) (k : ∀ H', Same H H' → D.nx σ H') : tDrop te D σ H := h _ fun _ H' s _ => k H' s
theorem s_if {t u : TS} (h : EvB tt σ H b) (k1 : b = true → ∀ H', Same H H' → t D σ H') (k2 : b = false → ∀ H', Same H H' → u D σ H') : tIfS tt t u D σ H := h _ fun H' s => by
  cases b with
  | true =>
    rw [if_pos rfl]
    exact k1 rfl H' s
  | false =>
    rw [if_neg Bool.false_ne_true]
    exact k2 rfl H' s
/-- the test does not hold: the branch is left out -/
theorem s_no {t u : TS} (h : EvB tt σ H false) (k : ∀ H', Same H H' → u D σ H') : tIfS tt t u D σ H := s_if h (fun z => nomatch z) fun _ => k
theorem s_yes {t u : TS} (h : EvB tt σ H true) (k : ∀ H', Same H H' → t D σ H') : tIfS tt t u D σ H := s_if h (fun _ => k) fun z => nomatch z
end

section
variable {M : Md} {σ : L2.St} {H : Hp} {te : TE} {tt : TT} {P R : V → Hp → Prop} {D : Ends} {b : Bool} {i : Nat} {t u : TS}
theorem ev_slot {v : V} (h : σ[i]? = some (some v)) : Ev (tVar i) σ H (PV v) := ev_var h rfl
theorem Ev.toB {c : Bool} (h : Ev te σ H (PB b)) (e : b = c) : Ev te σ H (PB c) := e ▸ h
theorem Ev.toI {i j : Int} (h : Ev te σ H (PI i)) (e : i = j) : Ev te σ H (PI j) := e ▸ h
/-- what stands behind a loop -/
theorem s_end {D' : Ends} (e : D'.nx = t D) (h : t D σ H) : D'.nx σ H := by rw [e]; exact h
theorem q_seq (h : t { D with nx := u D } σ H) : tSeq t u D σ H := h
theorem q_set (h : Ev te σ H P) (k : ∀ v H', Same H H' → P v H' → u D (σ.set i (some v)) H') : tSeq (tAsg te (gName i)) u D σ H := h _ k
theorem q_drop (h : Ev te σ H P) (k : ∀ H', Same H H' → u D σ H') : tSeq (tDrop te) u D σ H := h _ fun _ H' s _ => k H' s
/-- a branch that is not taken -/
theorem q_no (h : EvB tt σ H false) (k : ∀ H', Same H H' → u D σ H') : tSeq (tIfS tt t tNext) u D σ H := s_no (D := { D with nx := u D }) h fun H' s => k H' s
theorem q_if (h : EvB tt σ H b) (k1 : b = true → ∀ H', Same H H' → t { D with nx := u D } σ H') (k2 : b = false → ∀ H', Same H H' → u D σ H') : tSeq (tIfS tt t tNext) u D σ H := s_if (D := { D with nx := u D }) h k1 fun e H' s => k2 e H' s
/-- a, b = t -/
theorem q_un2 {i j : Nat} {d e : PyData} (h : Ev te σ H (PD M (.tuple [d, e]))) (k : ∀ v w H', Same H H' → Dt M H' v d → Dt M H' w e → u D ((σ.set i (some v)).set j (some w)) H') : tSeq (tAsg te (gTup M.K 2 (gCons (gName i) (gCons (gName j) gNil)))) u D σ H :=
  h _ fun v H' s p => by
    obtain ⟨a, xs, rfl, hs, hd⟩ := Dt.sq p
    cases hd with
    | cons d1 hd =>
      cases hd with
      | cons d2 hd =>
        cases hd
        exact ⟨a, _, rfl, hs, rfl, _, _, rfl, _, _, rfl, rfl, k _ _ H' s d1 d2⟩
end

/-! ### what is walked -/
/-- n items, the i-th as Y says; Z: the walked object stands. keep: what may happen meanwhile -/
def EvW (keep : Hp → Hp → Prop) (wi : TI) (σ : L2.St) (H : Hp) (n : Nat) (Y : Nat → V → Hp → Prop) : Prop := ∀ R : It → Hp → Prop,
  (∀ (J : It) (H1 : Hp) (Z : Hp → Prop), Same H H1 → Z H1 → (∀ H' H'', keep H' H'' → Z H' → Z H'') → (∀ i H', Z H' → i < n → J.go i H') → (∀ H', Z H' → J.stop n H') →
    (∀ i H' x H'', Z H' → i < n → J.yld i H' x H'' → Same H' H'' ∧ Y i x H'') → R J H1) → wi σ H R
abbrev EvI (M : Md) := EvW (Kp M)
abbrev EvL := EvW Same
theorem EvW.mono {k1 k2 : Hp → Hp → Prop} {wi : TI} {σ : L2.St} {H : Hp} {n : Nat} {Y : Nat → V → Hp → Prop} (h : EvW k1 wi σ H n Y) (hk : ∀ H' H'', k2 H' H'' → k1 H' H'') : EvW k2 wi σ H n Y :=
  fun R q => h R fun J H1 Z s z zk go st yl => q J H1 Z s z (fun H' H'' a => zk H' H'' (hk _ _ a)) go st yl
theorem EvW.toL {M : Md} {wi : TI} {σ : L2.St} {H : Hp} {n : Nat} {Y : Nat → V → Hp → Prop} (h : EvI M wi σ H n Y) : EvL wi σ H n Y := h.mono fun _ _ s => Kp.of s
theorem sqT_inj {K : PySem.W.Frag} {H : Hp} {a : Addr} {xs : List V} (h : SqT K H a xs) : True := trivial
section
variable {M : Md} {σ : L2.St} {H : Hp} {ta tb te ts : TE} {ds : List PyData} {n : Int}
theorem evi_range (h : Ev ta σ H (PI n)) (h1 : -(2 ^ 62) ≤ n := by omega) (h2 : n < 2 ^ 62 := by omega) : EvI M (iRng1 (tCons ta tNil)) σ H n.toNat fun i x _ => x = .int (i : Nat) := fun R q =>
  h _ fun x H1 s1 e => ⟨n, by rw [show x = V.int n from e], h1, h2, q (Itr 0 n.toNat) H1 (fun _ => True) s1 trivial (fun _ _ _ z => z) (fun _ _ _ hi => hi) (fun _ _ => Nat.le_refl _) fun i H' y H'' _ _ ⟨e1, e2⟩ => ⟨by rw [e1]; exact Same.refl _, by rw [e2, Int.zero_add]⟩⟩
theorem evi_tup (h : Ev ts σ H (PD M (.tuple ds))) : EvI M (iTup M.K ts) σ H ds.length fun i x H' => ∃ d, ds[i]? = some d ∧ Dt M H' x d := fun R q =>
  h _ fun x H1 s1 e => by
    obtain ⟨a, xs, rfl, hs, hd⟩ := Dt.sq e
    refine ⟨a, rfl, ⟨xs, hs⟩, q (Itt M.K a) H1 (fun H' => SqT M.K H' a xs ∧ DtA M H' xs ds) s1 ⟨hs, hd⟩ (fun H' H'' k z => ⟨k.sq z.1, DtA.kp k z.2⟩) (fun i H' z hi => ?_) (fun H' z => ⟨xs, z.1, by rw [hd.len]; exact Nat.le_refl _⟩) fun i H' y H'' z hi yl => ?_⟩
    · have hx : i < xs.length := by rw [hd.len]; exact hi
      exact ⟨xs, xs[i], z.1, List.getElem?_eq_getElem hx⟩
    · obtain ⟨e1, e2⟩ := yl
      subst e1
      obtain ⟨d, h1, h2⟩ := z.2.get' (e2 xs z.1)
      exact ⟨Same.refl _, d, h1, h2⟩
/-- a list that stands at a place of its own, its items data -/
theorem evl_list (h : Ev ts σ H (PL M ds)) : EvL (iList M.K ts) σ H ds.length fun i x H' => ∃ d, ds[i]? = some d ∧ Dt M H' x d := fun R q =>
  h _ fun x H1 s1 e => by
    obtain ⟨a, xs, rfl, hs, hd⟩ := e
    refine ⟨a, rfl, ⟨xs, SqL.of hs⟩, q (Itl M.K a) H1 (fun H' => H' a = some (.lst xs) ∧ DtA M H' xs ds) s1 ⟨hs, hd⟩ (fun H' H'' k z => ⟨k _ _ z.1, DtA.kp (Kp.of k) z.2⟩) (fun i H' z hi => ?_) (fun H' z => ⟨xs, SqL.of z.1, by rw [hd.len]; exact Nat.le_refl _⟩) fun i H' y H'' z hi yl => ?_⟩
    · have hx : i < xs.length := by rw [hd.len]; exact hi
      exact ⟨xs, xs[i], SqL.of z.1, List.getElem?_eq_getElem hx⟩
    · obtain ⟨e1, e2⟩ := yl
      subst e1
      obtain ⟨d, h1, h2⟩ := z.2.get' (e2 xs (SqL.of z.1))
      exact ⟨Same.refl _, d, h1, h2⟩
theorem evi_str {z : Str} (h : Ev te σ H (PV (.str z))) : EvI M (iStr te) σ H z.cps.size fun i x _ => ∃ c, z.cps[i]? = some c ∧ x = .str ⟨#[c]⟩ := fun R q =>
  h _ fun x H1 s1 e => ⟨z, e, q (Its z) H1 (fun _ => True) s1 trivial (fun _ _ _ z => z) (fun _ _ _ hi => hi) (fun _ _ => Nat.le_refl _) fun i H' y H'' _ _ ⟨e1, e2⟩ => ⟨by rw [e1]; exact Same.refl _, e2⟩⟩
/-- zip of two tuples -/
theorem evi_zip {es : List PyData} (ha : Ev ta σ H (PD M (.tuple ds))) (hb : ∀ H1, Same H H1 → Ev tb σ H1 (PD M (.tuple es))) :
    EvI M (iZipA M.K (tCons ta (tCons tb tNil))) σ H (min ds.length es.length) fun i x H' => ∃ d e, ds[i]? = some d ∧ es[i]? = some e ∧ Dt M H' x (.tuple [d, e]) := fun R q =>
  ha _ fun x H1 s1 e1 => hb H1 s1 _ fun y H2 s2 e2 => by
    obtain ⟨a, xs, rfl, hs, hd⟩ := Dt.sq (Dt.kp (Kp.of s2) e1)
    obtain ⟨b, ys, rfl, hs', hd'⟩ := Dt.sq e2
    refine ⟨a, b, xs, ys, rfl, Or.inr ⟨hs, hs', q (ItzT M.K a b) H2 (fun H' => SqT M.K H' a xs ∧ DtA M H' xs ds ∧ SqT M.K H' b ys ∧ DtA M H' ys es) (s1.trans s2) ⟨hs, hd, hs', hd'⟩ (fun H' H'' k z => ⟨k.sq z.1, DtA.kp k z.2.1, k.sq z.2.2.1, DtA.kp k z.2.2.2⟩)
      (fun i H' z hi => ?_) (fun H' z => ⟨xs, ys, z.1, z.2.2.1, ?_⟩) fun i H' v H'' z hi yl => ?_⟩⟩
    · have h1 := hd.len
      have h2 := hd'.len
      have hx : i < xs.length := by omega
      have hy : i < ys.length := by omega
      exact ⟨xs, ys, xs[i], ys[i], z.1, z.2.2.1, List.getElem?_eq_getElem hx, List.getElem?_eq_getElem hy⟩
    · have h1 := hd.len
      have h2 := hd'.len
      omega
    · obtain ⟨T, x, y, rfl, hT, rfl, ex, ey⟩ := yl
      obtain ⟨d, h1, h2⟩ := z.2.1.get' (ex xs z.1)
      obtain ⟨e, h3, h4⟩ := z.2.2.2.get' (ey ys z.2.2.1)
      have sn : Same H' (upd H' T (.tup [x, y])) := same_new hT
      exact ⟨sn, d, e, h1, h3, .tup (.inl (.inl upd_same)) (.cons (Dt.kp (Kp.of sn) h2) (.cons (Dt.kp (Kp.of sn) h4) .nil))⟩
end

/-! ### comprehensions -/
section
variable {M : Md} {σ : L2.St} {H : Hp} {wi : TI} {g : TG} {tt : TT} {te : TE} {vs : List Nat} {n : Nat} {Y : Nat → V → Hp → Prop} {keep : Nat → Bool} {e : Nat → PyData}
theorem filter_succ (p : Nat → Bool) (k : Nat) : (List.range (k + 1)).filter p = (List.range k).filter p ++ (if p k = true then [k] else []) := by
  rw [List.range_succ, List.filter_append]
  congr 1
  cases h : p k <;> simp [h]
theorem ev_lc (hi : EvL wi σ H n Y)
    (ht : ∀ i x H1, i < n → Same H H1 → Y i x H1 → ∀ R : L2.St → Hp → Prop, (∀ σ2 H2, Same H1 H2 → wipe σ2 vs = wipe σ vs → EvB tt σ2 H2 (keep i) → (keep i = true → ∀ H3, Same H2 H3 → Ev te σ2 H3 (PD M (e i))) → R σ2 H2) → g x (wipe σ vs) H1 R)
    (hz : n ≤ 1000000) : Ev (tLc wi g tt te vs) σ H (PL M (((List.range n).filter keep).map e)) := fun Q q =>
  hi _ fun J H1 Z s1 z1 zk go st yl D hD => by
    have lenle : ∀ i, i ≤ n → ((List.range i).filter keep).length ≤ i := fun i _ => by
      have := List.length_filter_le keep (List.range i)
      rw [List.length_range] at this
      exact this
    have big : ∀ k, k ≤ 1000000 → k < sizeLine := fun k hk => Nat.lt_of_le_of_lt hk (by decide)
    refine ⟨fun i m H' => m = n - i ∧ i ≤ n ∧ Same H1 H' ∧ ∃ acc, H' D = some (.lst acc) ∧ DtA M H' acc (((List.range i).filter keep).map e), ⟨n, rfl, Nat.zero_le _, same_new hD, [], upd_same, .nil⟩, ?_⟩
    intro i m H' hW
    obtain ⟨hm, hin, s2, acc, hacc, hda⟩ := hW
    have zH : Z H' := zk _ _ s2 z1
    by_cases hlt : i < n
    · refine .inr ⟨go i H' zH hlt, fun H'' => n - (i + 1) = n - (i + 1) ∧ i + 1 ≤ n ∧ Same H1 H'' ∧ ∃ acc, H'' D = some (.lst acc) ∧ DtA M H'' acc (((List.range (i + 1)).filter keep).map e), fun H'' h => ⟨n - (i + 1), by omega, h⟩, fun x H2 hy => ?_⟩
      obtain ⟨s3, y3⟩ := yl i H' x H2 zH hlt hy
      refine ht i x H2 hlt (s1.trans (s2.trans s3)) y3 _ fun σ2 H3 s4 hw hb hev => ⟨hw, hb _ fun H4 s5 => ?_⟩
      have s6 : Same H' H4 := s3.trans (s4.trans s5)
      have hda4 := DtA.kp (M := M) (Kp.of s6) hda
      cases hk : keep i with
      | true =>
        rw [if_pos rfl]
        refine hev hk H4 s5 _ fun y H5 s7 p5 => ⟨acc, s7 _ _ (s6 _ _ hacc), ?_, ?_⟩
        · have l1 := hda.len
          rw [List.length_map] at l1
          have l2 := lenle i hin
          exact big _ (by omega)
        · refine ⟨rfl, hlt, same_mut (s2.trans (s6.trans s7)) hD, acc ++ [y], upd_same, ?_⟩
          rw [filter_succ, if_pos hk, List.map_append]
          have kp5 : Kp M H5 (upd H5 D (.lst (acc ++ [y]))) := Kp.lst (s7 _ _ (s6 _ _ hacc))
          exact (DtA.kp kp5 (DtA.kp (Kp.of s7) hda4)).app (.cons (Dt.kp kp5 p5) .nil)
      | false =>
        rw [if_neg Bool.false_ne_true]
        refine ⟨rfl, hlt, s2.trans s6, acc, s6 _ _ hacc, ?_⟩
        rw [filter_succ, hk, if_neg Bool.false_ne_true, List.append_nil]
        exact hda4
    · have hi' : i = n := by omega
      subst hi'
      refine .inl ⟨st H' zH, q _ H' (s1.trans s2) ⟨D, acc, rfl, hacc, hda⟩⟩
theorem eb_yes : EvB tYes σ H true := fun _ q => q H (Same.refl H)
/-- no test, one name as the target -/
theorem ev_lc1 {i : Nat} (hi : EvL wi σ H n Y) (he : ∀ j x H1, j < n → Same H H1 → Y j x H1 → Ev te ((wipe σ vs).set i (some x)) H1 (PD M (e j)))
    (hw : ∀ x, wipe ((wipe σ vs).set i (some x)) vs = wipe σ vs) (hz : n ≤ 1000000) (hy : ∀ j x H1 H2, Same H1 H2 → Y j x H1 → Y j x H2) : Ev (tLc wi (gName i) tYes te vs) σ H (PL M ((List.range n).map e)) := by
  have h := ev_lc (keep := fun _ => true) (g := gName i) (tt := tYes) (te := te) (vs := vs) (e := e) (M := M) hi (fun j x H1 hj s1 y1 R k => k _ H1 (Same.refl _) (hw x) eb_yes fun _ H3 s3 => he j x H3 hj (s1.trans s3) (hy _ _ _ _ s3 y1)) hz
  rw [List.filter_eq_self.mpr (fun _ _ => rfl)] at h
  exact h
end
theorem map_range_get {α β : Type} {n : Nat} {f : Nat → β} {xs : List α} {h : α → β} (hl : xs.length = n) (e : ∀ i a, xs[i]? = some a → f i = h a) : (List.range n).map f = xs.map h := by
  apply List.ext_getElem?
  intro i
  rw [List.getElem?_map, List.getElem?_map]
  by_cases hi : i < n
  · rw [List.getElem?_range hi]
    have hx : i < xs.length := by omega
    rw [List.getElem?_eq_getElem hx]
    exact congrArg some (e i _ (List.getElem?_eq_getElem hx))
  · rw [List.getElem?_eq_none_iff.mpr (by rw [List.length_range]; omega), List.getElem?_eq_none_iff.mpr (by omega)]
    rfl

/-! ### for: an invariant by the turn -/
section
variable {kp : Hp → Hp → Prop} {σ : L2.St} {H : Hp} {wi : TI} {g : TG} {tb : TS} {D : Ends} {n : Nat} {Y : Nat → V → Hp → Prop}
/-- W i: ahead of turn i; the walked object stands by kp from the loop's beginning -/
theorem s_for (hi : EvW kp wi σ H n Y) (W : Nat → L2.St → Hp → Hp → Prop) (h0 : ∀ H1, Same H H1 → W 0 σ H1 H1) (hk : ∀ i σ' H1 H', W i σ' H1 H' → kp H1 H')
    (hs : ∀ i x σ' H1 H' H'', i < n → Same H H1 → W i σ' H1 H' → Same H' H'' → Y i x H'' → g x σ' H'' fun σ2 H2 => tb { D with nx := fun σ3 H3 => W (i + 1) σ3 H1 H3, ct := fun σ3 H3 => W (i + 1) σ3 H1 H3, bk := D.nx } σ2 H2)
    (hd : ∀ σ' H1 H', Same H H1 → W n σ' H1 H' → D.nx σ' H') : tFor wi g tb D σ H :=
  hi _ fun J H1 Z s1 z1 zk go st yl => by
    refine ⟨fun i m σ' H' => m = n - i ∧ i ≤ n ∧ W i σ' H1 H', ⟨n, rfl, Nat.zero_le _, h0 H1 s1⟩, ?_⟩
    intro i m σ' H' hW
    obtain ⟨hm, hin, w⟩ := hW
    have zH : Z H' := zk _ _ (hk _ _ _ _ w) z1
    by_cases hlt : i < n
    · refine .inr ⟨go i H' zH hlt, fun σ3 H3 => W (i + 1) σ3 H1 H3, fun σ3 H3 h => ⟨n - (i + 1), by omega, rfl, hlt, h⟩, fun x H2 hy => ?_⟩
      obtain ⟨s3, y3⟩ := yl i H' x H2 zH hlt hy
      exact hs i x σ' H1 H' H2 hlt s1 w s3 y3
    · have hi' : i = n := by omega
      subst hi'
      exact .inl ⟨st H' zH, hd σ' H1 H' s1 w⟩
end

/-! ### operators on data -/
/-- a slice's items -/
def cutD (ds : List PyData) (lo hi : Option Int) : List PyData := (ds.drop (HT.sIx ds.length 0 lo)).take (HT.sIx ds.length ds.length hi - HT.sIx ds.length 0 lo)
section
variable {M : Md} {σ : L2.St} {H : Hp} {ta tb tc te : TE} {ds es : List PyData} {P : V → Hp → Prop} {d : PyData} {v : V}
theorem ev_cat (ha : Ev ta σ H (PD M (.tuple ds))) (hb : ∀ H1, Same H H1 → Ev tb σ H1 (PD M (.tuple es))) (hz : ds.length + es.length ≤ 1000000) : Ev (tOp (rCatA M.K) ta tb) σ H (PD M (.tuple (ds ++ es))) :=
  ev_op ha (fun _ H1 s1 _ => hb H1 s1) fun x y H1 H2 s1 s2 p1 p2 Q q => by
    obtain ⟨a, xs, rfl, hs, hd⟩ := Dt.sq (Dt.kp (Kp.of s2) p1)
    obtain ⟨b, ys, rfl, hs', hd'⟩ := Dt.sq p2
    have l1 := hd.len
    have l2 := hd'.len
    refine ⟨a, b, xs, ys, rfl, rfl, hs, hs', Nat.le_trans (m := 1000000) (by omega) (by decide), fun e => ?_, fun e1 e2 => ?_, fun e1 e2 p hp => ?_⟩
    · subst e
      cases hd
      exact q _ H2 (Same.refl _) (.tup hs' hd')
    · subst e2
      cases hd'
      exact q _ H2 (Same.refl _) (by rw [List.append_nil]; exact .tup hs hd)
    · have sn : Same H2 (upd H2 p (.tup (xs ++ ys))) := same_new hp
      exact q _ _ sn (.tup (.inl (.inl upd_same)) ((DtA.kp (Kp.of sn) hd).app (DtA.kp (Kp.of sn) hd')))
def EvP (to : TO) (σ : L2.St) (H : Hp) (o : Option Int) : Prop := ∀ Q : Option Int → Hp → Prop, (∀ H', Same H H' → Q o H') → to σ H Q
theorem ep_none : EvP tNoPart σ H none := fun _ q => q H (Same.refl H)
theorem ep_some {i : Int} (h : Ev te σ H (PI i)) : EvP (tPart te) σ H (some i) := fun _ q => h _ fun x H1 s1 e => ⟨i, e, q H1 s1⟩
theorem ev_slice {lo hi : Option Int} {tl th : TO} (ha : Ev ta σ H (PD M (.tuple ds))) (hl : ∀ H1, Same H H1 → EvP tl σ H1 lo) (hh : ∀ H1, Same H H1 → EvP th σ H1 hi) : Ev (tSl (rSlA M.K) ta tl th) σ H (PD M (.tuple (cutD ds lo hi))) := fun Q q =>
  ha _ fun x H1 s1 p1 => hl H1 s1 _ fun H2 s2 => hh H2 (s1.trans s2) _ fun H3 s3 => by
    obtain ⟨a, xs, rfl, hs, hd⟩ := Dt.sq (Dt.kp (Kp.of (s2.trans s3)) p1)
    have l1 := hd.len
    have s123 : Same H H3 := s1.trans (s2.trans s3)
    refine ⟨a, xs, rfl, hs, fun e => ?_, fun e p hp => ?_⟩
    · refine q _ H3 s123 ?_
      have : cutD ds lo hi = ds := by
        unfold cutD
        rw [← l1, e.1, e.2, List.drop_zero, Nat.sub_zero, l1, List.take_length]
      rw [this]
      exact .tup hs hd
    · have sn : Same H3 (upd H3 p (.tup (cutV xs lo hi))) := same_new hp
      refine q _ _ (s123.trans sn) (.tup (.inl (.inl upd_same)) (DtA.kp (Kp.of sn) ?_))
      unfold cutV cutD
      rw [l1]
      exact (hd.drop _).take _
theorem ev_ix {i : Int} (ha : Ev ta σ H (PD M (.tuple ds))) (hb : ∀ H1, Same H H1 → Ev tb σ H1 (PI i)) (hi : atI ds i = some d) : Ev (tOp (rIxT M.K) ta tb) σ H (PD M d) :=
  ev_op ha (fun _ H1 s1 _ => hb H1 s1) fun x y H1 H2 s1 s2 p1 p2 Q q => by
    obtain ⟨a, xs, rfl, hs, hd⟩ := Dt.sq (Dt.kp (Kp.of s2) p1)
    obtain rfl : y = .int i := p2
    unfold atI at hi
    cases hn : ixN ds.length i with
    | none => rw [hn] at hi; cases hi
    | some n =>
      rw [hn] at hi
      obtain ⟨u, hu, hdu⟩ := hd.get (show ds[n]? = some d from hi)
      exact ⟨a, xs, i, u, rfl, rfl, hs, by unfold atI; rw [hd.len, hn]; exact hu, q _ H2 (Same.refl _) hdu⟩
theorem ev_tup {tr : TA} (h : EvA tr σ H fun vs H' => DtA M H' vs ds) (hz : ds.length ≤ 1000000) : Ev (tTup tr) σ H (PD M (.tuple ds)) := fun Q q =>
  h _ fun vs H1 s1 p1 => ⟨Nat.le_trans (m := 1000000) (by rw [p1.len]; exact hz) (by decide), fun p hp => by
    have sn : Same H1 (upd H1 p (.tup vs)) := same_new hp
    exact q _ _ (s1.trans sn) (.tup (.inl (.inl upd_same)) (DtA.kp (Kp.of sn) p1))⟩
theorem ev_lst {tr : TA} (h : EvA tr σ H fun vs H' => DtA M H' vs ds) (hz : ds.length ≤ 1000000) : Ev (tLst tr) σ H (PL M ds) := fun Q q =>
  h _ fun vs H1 s1 p1 => ⟨Nat.le_trans (m := 1000000) (by rw [p1.len]; exact hz) (by decide), fun p hp => by
    have sn : Same H1 (upd H1 p (.lst vs)) := same_new hp
    exact q _ _ (s1.trans sn) ⟨p, vs, rfl, upd_same, DtA.kp (Kp.of sn) p1⟩⟩
theorem ea0 : EvA tNil σ H fun vs H' => DtA M H' vs [] := fun _ q => q [] H (Same.refl H) .nil
theorem ea1 {tr : TA} (ha : Ev te σ H (PD M d)) (hr : ∀ H1, Same H H1 → EvA tr σ H1 fun vs H' => DtA M H' vs ds) : EvA (tCons te tr) σ H fun vs H' => DtA M H' vs (d :: ds) := fun Q q =>
  ha _ fun x H1 s1 p1 => hr H1 s1 _ fun xs H2 s2 p2 => q _ H2 (s1.trans s2) (.cons (Dt.kp (Kp.of s2) p1) p2)
/-- a scalar is a datum -/
theorem Ev.dI {i : Int} (h : Ev te σ H (PI i)) : Ev te σ H (PD M (.int i)) := h.imp fun _ _ _ e => by
  rw [show _ = V.int i from e]
  exact .int i
theorem Ev.dS {z : Str} (h : Ev te σ H (PV (.str z))) : Ev te σ H (PD M (.str z)) := h.imp fun _ _ _ e => by
  rw [show _ = V.str z from e]
  exact .str z
theorem Ev.dB {b : Bool} (h : Ev te σ H (PB b)) : Ev te σ H (PD M (.bool b)) := h.imp fun _ _ _ e => by
  rw [show _ = V.bl b from e]
  exact .bl b
theorem Ev.dN (h : Ev te σ H (PV .non)) : Ev te σ H (PD M .none) := h.imp fun _ _ _ e => by
  rw [show _ = V.non from e]
  exact .non
theorem Ev.iD {i : Int} (h : Ev te σ H (PD M (.int i))) : Ev te σ H (PI i) := h.imp fun _ _ _ e => by
  cases e
  rfl
theorem Ev.sD {z : Str} (h : Ev te σ H (PD M (.str z))) : Ev te σ H (PV (.str z)) := h.imp fun _ _ _ e => by
  cases e
  rfl
/-- tuple(a list) -/
theorem ev_tupL (h : Ev te σ H (PL M ds)) : Ev (tCB (rTupOf M.K) (tCons te tNil)) σ H (PD M (.tuple ds)) := fun Q q =>
  h _ fun x H1 s1 p1 => by
    obtain ⟨a, xs, rfl, hs, hd⟩ := p1
    exact ⟨a, xs, rfl, Or.inl ⟨SqL.of hs, fun p hp => by
      have sn : Same H1 (upd H1 p (.tup xs)) := same_new hp
      exact q _ _ (s1.trans sn) (.tup (.inl (.inl upd_same)) (DtA.kp (Kp.of sn) hd))⟩⟩
theorem ev_lenT (h : Ev te σ H (PD M (.tuple ds))) : Ev (tCB (rLenQ M.K) (tCons te tNil)) σ H (PI ds.length) := fun Q q =>
  h _ fun x H1 s1 p1 => by
    obtain ⟨a, xs, rfl, hs, hd⟩ := Dt.sq p1
    exact ⟨a, xs, rfl, Or.inr hs, q _ _ s1 (by rw [← hd.len])⟩
theorem ev_lenL (h : Ev te σ H (PL M ds)) : Ev (tCB (rLenQ M.K) (tCons te tNil)) σ H (PI ds.length) := fun Q q =>
  h _ fun x H1 s1 p1 => by
    obtain ⟨a, xs, rfl, hs, hd⟩ := p1
    exact ⟨a, xs, rfl, Or.inl (SqL.of hs), q _ _ s1 (by rw [← hd.len])⟩
theorem ev_lenS {z : Str} (h : Ev te σ H (PV (.str z))) (hz : z.length ≤ 1000000) : Ev (tCB rLenZ (tCons te tNil)) σ H (PI z.length) := fun Q q =>
  h _ fun x H1 s1 p1 => ⟨z, by rw [show x = V.str z from p1], Nat.le_trans hz (by decide), q _ _ s1 rfl⟩
theorem DtA.of_bls : ∀ {bs : List Bool} {vs : List V}, DtA M H vs (bs.map PyData.bool) → vs = bs.map V.bl
  | [], _, h => by cases h; rfl
  | b :: bs, _, h => by
    rw [List.map_cons] at h
    cases h with
    | cons a c =>
      cases a
      rw [DtA.of_bls c]
      rfl
theorem DtA.of_strs : ∀ {bs : List Str} {vs : List V}, DtA M H vs (bs.map PyData.str) → vs = bs.map V.str
  | [], _, h => by cases h; rfl
  | b :: bs, _, h => by
    rw [List.map_cons] at h
    cases h with
    | cons a c =>
      cases a
      rw [DtA.of_strs c]
      rfl
theorem ev_all {bs : List Bool} (h : Ev te σ H (PL M (bs.map PyData.bool))) : Ev (tCB (rAll M.K) (tCons te tNil)) σ H (PB (bs.all id)) := fun Q q =>
  h _ fun x H1 s1 p1 => by
    obtain ⟨a, xs, rfl, hs, hd⟩ := p1
    rw [DtA.of_bls hd] at hs
    exact ⟨a, bs, rfl, SqL.of hs, q _ _ s1 rfl⟩
theorem ev_any {bs : List Bool} (h : Ev te σ H (PL M (bs.map PyData.bool))) : Ev (tCB (rAny M.K) (tCons te tNil)) σ H (PB (bs.any id)) := fun Q q =>
  h _ fun x H1 s1 p1 => by
    obtain ⟨a, xs, rfl, hs, hd⟩ := p1
    rw [DtA.of_bls hd] at hs
    exact ⟨a, bs, rfl, SqL.of hs, q _ _ s1 rfl⟩
/-- list + list -/
theorem ev_catL (ha : Ev ta σ H (PL M ds)) (hb : ∀ H1, Same H H1 → Ev tb σ H1 (PL M es)) (hz : ds.length + es.length ≤ 1000000) : Ev (tOp rCat ta tb) σ H (PL M (ds ++ es)) :=
  ev_op ha (fun _ H1 s1 _ => hb H1 s1) fun x y H1 H2 s1 s2 p1 p2 Q q => by
    obtain ⟨a, xs, rfl, hs, hd⟩ := p1
    obtain ⟨b, ys, rfl, hs', hd'⟩ := p2
    have l1 := hd.len
    have l2 := hd'.len
    refine ⟨a, b, xs, ys, rfl, rfl, s2 _ _ hs, hs', Nat.le_trans (m := 1000000) (by omega) (by decide), fun p hp => ?_⟩
    have sn : Same H2 (upd H2 p (.lst (xs ++ ys))) := same_new hp
    exact q _ _ sn ⟨p, _, rfl, upd_same, (DtA.kp (Kp.of (s2.trans sn)) hd).app (DtA.kp (Kp.of sn) hd')⟩
/-- sep.join(a list of texts) -/
theorem ev_join {a : Str} {ys : List Str} (ha : Ev ta σ H (PV (.str a))) (hb : ∀ H1, Same H H1 → Ev tb σ H1 (PL M (ys.map PyData.str))) (hz : (ys.map (·.length)).sum + ys.length * a.length ≤ 16777216) : Ev (tM1 (rJoin M.K) ta tb) σ H (PV (.str (Txt.join a ys))) := fun Q q =>
  ha _ fun x H1 s1 p1 => ⟨⟨a, p1⟩, hb H1 s1 _ fun y H2 s2 p2 => by
    obtain ⟨b, xs, rfl, hs, hd⟩ := p2
    rw [DtA.of_strs hd] at hs
    exact ⟨a, b, ys, p1, rfl, Or.inl (SqL.of hs), hz, q _ _ (s1.trans s2) rfl⟩⟩
theorem ev_strI {i : Int} (h : Ev te σ H (PI i)) (hz : i.natAbs.log2 < 1920) : Ev (tCB rStrI (tCons te tNil)) σ H (PV (.str (toString i))) := fun Q q =>
  h _ fun x H1 s1 p1 => ⟨i, by rw [show x = V.int i from p1], hz, q _ _ s1 rfl⟩
end
end Crx

set_option maxHeartbeats 4000000
/-! Crx4: iterators that the layer lacks: enumerate of a tuple, items of a dict whose keys are tuples. -/
namespace Crx
open PySem PySem.Spec PyProof.Rows L2

/-! ### enumerate(a tuple) -/
theorem meets_enum1 {v : Value} {o : Obj} {Hh : Heap → Prop} (B : Begins v o Hh) :
    Meets (Builtin.«enumerate.__new__» ⟨[.type "enumerate", v], []⟩) (fun _ R s => Hh s.heap ∧
      R (.ok (.ret (.ref (s.heap.push o).objs.size)))
        { s with heap := (s.heap.push o).push { cls := .type "enumerate", data := .fields #[.none, .bool false, .ref s.heap.objs.size, rawInt 0, .none, .none] } }) :=
  .of_wp fun prog w A R s hyp => by
    obtain ⟨hp, g, d, tk, os⟩ := s
    obtain ⟨k1, k2⟩ := hyp
    have hsub := sub_enumerate
    have bg : ∀ {A' : Around} {E : Value → Shared → Prop} {Q : Value → Shared → Prop}, Q (.ref hp.objs.size) ⟨hp.push o, g, d, tk, os⟩ → wpAny (model prog w) A' (pyIter v) Q E ⟨hp, g, d, tk, os⟩ :=
      fun q => B.iter prog w _ _ (Shared.mk hp g d tk os) _ k1 q
    wp_walk using bg
    refine wpAny_stack_any fun st => wpAny_pure ?_
    split
    · rename_i cc _ _ _ _ _
      cases (cc == Value.type "enumerate") <;> (wp_walk using bg; exact ⟨_, rfl, k2⟩)
    · wp_walk using bg
      exact ⟨_, rfl, k2⟩
theorem call_enum1 {prog : Program} {w : World} {A : Around} {E : Value → Shared → Prop} {s : Shared} {v : Value} {o : Obj} {Hh : Heap → Prop} {Q : Value → Shared → Prop} (B : Begins v o Hh) (h1 : Hh s.heap)
    (h : ∀ h', IsEnum h' (s.heap.objs.size + 1) s.heap.objs.size 0 .none → h'.get? s.heap.objs.size = some o → h'.objs.size = s.heap.objs.size + 2 →
      (∀ b u, s.heap.get? b = some u → h'.get? b = some u) → Q (.ref (s.heap.objs.size + 1)) { s with heap := h' }) :
    wpAny (model prog w) A (call (.type "enumerate") [v]) Q E s := by
  refine callType_new F.called_enumerate (by decide) (F.typeCall_enumerate_1 _) (F.newCall_enumerate_1 _) (fun obj => F.args_object_init_2 obj _) F.entry_enumerate_new (meets_enum1 B) ⟨h1, ?_⟩
  have hz : (s.heap.push o).objs.size = s.heap.objs.size + 1 := Heap.size_push ..
  show _ ∧ _
  rw [hz]
  have he : IsEnum ((s.heap.push o).push { cls := .type "enumerate", data := .fields #[.none, .bool false, .ref s.heap.objs.size, rawInt 0, .none, .none] }) (s.heap.objs.size + 1) s.heap.objs.size 0 .none := by
    have z := Heap.get?_push_size (s.heap.push o) (o := { cls := .type "enumerate", data := .fields #[.none, .bool false, .ref s.heap.objs.size, rawInt 0, .none, .none] }) rfl
    rw [hz] at z
    exact z
  exact ⟨⟨_, he, rfl⟩, h _ he (Heap.get?_push_of_some _ (Heap.get?_push_size _ B.free)) (by rw [Heap.size_push, hz]) fun b u x => Heap.get?_push_of_some _ (Heap.get?_push_of_some _ x)⟩
/-- the tuple at a, each item in a new pair with its place -/
def IteT (K : PySem.W.Frag) (a : Addr) : It where
  go := fun i H => ∃ (xs : List V) (x : V), SqT K H a xs ∧ xs[i]? = some x
  yld := fun i H v H' => ∃ T x, v = .ref T ∧ H T = none ∧ H' = upd H T (.tup [.int (i : Nat), x]) ∧ ∀ xs, SqT K H a xs → xs[i]? = some x
  stop := fun i H => ∃ xs : List V, SqT K H a xs ∧ xs.length = i
theorem turn_enumT {P : Program} {w : World} {K : PySem.W.Frag} {elts : List Expr} {kk : Nat} {tpos : Pos} (a e it : Addr) (hai : a ≠ it) (hae : e ≠ a) (hei : e ≠ it) :
    Turn P w K (.Tuple elts kk tpos) (IteT K a) [e, it] e (fun i h => (∃ old, IsEnum h e it ((i : Nat) : Int) old) ∧ h.IsTupleIter it a i) where
  mem := by simp
  obj := fun i h st b hb => by
    obtain ⟨⟨old, he⟩, o, ho, hc, hd⟩ := st
    rcases (by simpa using hb : b = e ∨ b = it) with rfl | rfl
    · exact ⟨_, he, fun v q => nomatch q⟩
    · exact ⟨o, ho, fun v q => by rw [hd] at q; cases q⟩
  keep := fun i h h' st k => by
    obtain ⟨⟨old, he⟩, hi⟩ := st
    exact ⟨⟨old, k e (by simp) _ he⟩, hi.at fun o q => k it (by simp) o q⟩
  item := by
    intro X eP ew eK calm i pins s σ H E I hf st gone
    subst eP ew eK
    obtain ⟨⟨old, he⟩, hit⟩ := st
    obtain ⟨xs, x, hq, hx⟩ := gone
    obtain ⟨its, rv, p, hz⟩ := I.tuple hq
    obtain ⟨u, hu, ru⟩ := rv.get hx
    have hel : e < s.heap.objs.size := Heap.lt_size he
    have hil : it < s.heap.objs.size := by
      obtain ⟨_, q, _⟩ := hit
      exact Heap.lt_size q
    have hlt : i < its.toArray.size := by
      have := (List.getElem?_eq_some_iff.mp hu).1
      simpa using this
    refine wpAny_pyNext_enum_itemD (Draws.tuple (A := X.A.in1) (by show X.A.handled = none; exact I.ok.hd calm) it a hai its.toArray) he ⟨hit, show s.heap.IsTuple a its.toArray from p⟩ hlt hei (by simp [hei, hae]) fun x' h' tk hP ho hst hT hsz hk => ?_
    have ex : x' = u := by
      have q : its.toArray[i]? = some x' := hP
      rw [List.getElem?_toArray, hu] at q
      exact (Option.some.inj q).symm
    subst ex
    refine ⟨_, rfl, wpAny_letOwnedTupleGo_enum (s := { s with heap := h', toks := tk + 1 }) ho fun h'' he' sb => ?_⟩
    have hT2 : h''.get? s.heap.objs.size = some { cls := .type "tuple", data := .seq #[.int i tk, x'] } := (sb.2 _ (Nat.ne_of_gt hel)).trans hT
    have new : ObjOk X.prog X.w (upd H s.heap.objs.size (.tup [.int (i : Nat), x])) h'' s.heap.objs.size (.tup [.int (i : Nat), x]) :=
      ⟨by show 2 ≤ sizeLine; decide, [.int i tk, x'], .cons ⟨_, rfl⟩ (.cons ru .nil), ⟨_, hT2, rfl, _, rfl⟩⟩
    have I1 : Inv X pins σ (upd H s.heap.objs.size (.tup [.int (i : Nat), x])) { s with heap := h'', toks := tk + 1 } :=
      I.turnedNew (t' := tk + 1) (ch := [e, it]) (fun b ob hb q => (sb.2 b (fun z => hb (by simp [z]))).trans (hk b ob (fun z => hb (by simp [z])) (fun z => hb (by simp [z])) q)) hf (Nat.le_refl _) new
    refine ⟨.ref s.heap.objs.size, _, I1, rfl, ⟨_, x, rfl, I.hok.fresh (Nat.le_refl _), rfl, fun ys hy => by rw [I.tuple_inj hy hq]; exact hx⟩, ⟨⟨x', ?_⟩, hst.1.at fun o q => (sb.2 it (Ne.symm hei)).trans q⟩, fun b hb => ?_⟩
    · have e1 : ((i + 1 : Nat) : Int) = (i : Int) + 1 := by omega
      rw [e1]
      exact he'
    · have hb' : b < s.heap.objs.size := by
        rcases (by simpa using hb : b = e ∨ b = it) with z | z
        · rw [z]; exact hel
        · rw [z]; exact hil
      rw [upd_ne (Nat.ne_of_lt hb')]
      exact (hf b hb).1
  done := by
    intro X eP ew eK calm i pins s σ H E I hf st gone
    subst eP ew eK
    obtain ⟨⟨old, he⟩, hit⟩ := st
    obtain ⟨xs, hq, hx⟩ := gone
    obtain ⟨its, rv, p, hz⟩ := I.tuple hq
    obtain ⟨f0, f1, f2, f3, f4, f5⟩ := hf it (by simp)
    have hl := rv.length
    have en : i = its.toArray.size := by
      rw [List.size_toArray]
      omega
    subst en
    exact wpAny_pyNext_enum_endD (Draws.tuple (A := X.A.in1) (by show X.A.handled = none; exact I.ok.hd calm) it a hai its.toArray) he ⟨hit, show s.heap.IsTuple a its.toArray from p⟩ fun h' eb => ⟨rfl, I.turned (t' := s.toks) (fun b o hb q => eb b o hb q) f0 f1 f3 f4 f5⟩
  self := fun A i s Q E st h => by
    obtain ⟨⟨_, he⟩, _⟩ := st
    exact wpAny_pyIter_enum he h
def iEnumT (K : PySem.W.Frag) (ta : TA) : TI := fun σ H R => ta σ H fun vs H1 => ∃ a xs, vs = [.ref a] ∧ SqT K H1 a xs ∧ R (IteT K a) H1
theorem pi_enumT {X : Cx} {e : Expr} {ta : TA} {p pos tpos : Pos} {elts : List Expr} {kk : Nat} (hg : Gl X "enumerate") (hm : X.mg "enumerate" = none) (ha : PA X [e] ta) (hs : starEach [e] X.env = [(false, eval e X.env)] := by rfl) :
    L2.PI X (.Tuple elts kk tpos) (.Call (.Name "enumerate" p) [e] [] pos) (iEnumT X.K ta) := by
  refine ⟨fun pins s σ H R I h => Call_ (ld_blt I hg hm boot_enumerate (PyProof.Rows.callWith_type1 (thn (ha.run pos pins s σ H _ I h) fun us s1 r0 => ?_) hs rfl))⟩
  obtain ⟨vs, H1, I1, r1, a, xs, ex, hq, q⟩ := r0
  subst ex
  cases r1 with
  | cons r rr =>
    cases rr
    cases r
    obtain ⟨its, rv, p', hz⟩ := I1.tuple hq
    have la : a < s1.heap.objs.size := p'.lt
    refine call_enum1 (begins_tuple a its.toArray) (show s1.heap.IsTuple a its.toArray from p') fun h' he hit hsz hk => wpAny_pyIter_enum he ?_
    have I2 : Inv X pins σ H1 { s1 with heap := h' } := I1.kept (t' := s1.toks) hk
    refine ⟨s1.heap.objs.size + 1, [s1.heap.objs.size + 1, s1.heap.objs.size], _, _, H1, rfl, I2, turn_enumT a (s1.heap.objs.size + 1) s1.heap.objs.size (Nat.ne_of_lt la) (Nat.ne_of_gt (Nat.lt_succ_of_lt la)) (Nat.succ_ne_self _), ⟨⟨.none, he⟩, ⟨_, hit, rfl, rfl⟩⟩, fun b hb => ?_, q⟩
    have hle : s1.heap.objs.size ≤ b := by
      rcases (by simpa using hb : b = s1.heap.objs.size + 1 ∨ b = s1.heap.objs.size) with z | z
      · rw [z]; exact Nat.le_add_right _ _
      · rw [z]; exact Nat.le_refl _
    exact I1.fpOk hle (I1.hok.fresh hle)

/-! ### items of a locked dict with tuple keys -/
theorem frz_T {X : Cx} {pins : List (Addr × Obj)} {σ : L2.St} {H : Hp} {s : Shared} {d : Addr} {o : Obj} {kvs : List (List Key × V)} (I : Inv X pins σ H s) (h : H d = some (.frz o (.dT kvs))) :
    (d == sysModules) = false ∧ ∃ (es : Array DictEntry) (ep : Nat), s.heap.DictRaw d es ep ∧ o.data = .dict es ep ∧ es.size = kvs.length ∧
      ∀ (i : Nat) (k : List Key) (v : V), kvs[i]? = some (k, v) → ∃ (en : DictEntry) (q : Addr), es[i]? = some en ∧ en.key = .ref q ∧ H q = some (.tup (k.map kV)) ∧ RelV v en.val := by
  obtain ⟨hd, z, hs, xs, pr, o', es, ep, ho, hx, hdt, he, _⟩ := I.hok d _ h
  rw [hd] at ho
  cases ho
  refine ⟨hs, es, ep, ⟨o, hd, hx, hdt⟩, hdt, ?_, fun i k v e => ?_⟩
  · have l1 : es.size = xs.length := size_of_entries he
    have l2 : kvs.length = xs.length := Paired.length pr
    omega
  · obtain ⟨b, hb, e1, e2, e3⟩ := paired_get pr e
    have q := entry_at he i
    rw [hb] at q
    exact ⟨_, b.2.1, q, rfl, e2, e3⟩
def ItiT (d : Addr) (o : Obj) (kvs : List (List Key × V)) : It where
  go := fun i H => H d = some (.frz o (.dT kvs)) ∧ i < kvs.length
  yld := fun i H x H' => ∃ T q k v, kvs[i]? = some (k, v) ∧ x = .ref T ∧ H T = none ∧ H q = some (.tup (k.map kV)) ∧ H' = upd H T (.tup [.ref q, v])
  stop := fun i H => H d = some (.frz o (.dT kvs)) ∧ kvs.length ≤ i
theorem turn_itemsT {P : Program} {w : World} {K : PySem.W.Frag} {d : Addr} {o : Obj} {es : Array DictEntry} {ep : Nat} {kvs : List (List Key × V)} {elts : List Expr} {kk : Nat} {tpos : Pos} (it : Addr) (hod : o.data = .dict es ep) (hn : es.size = kvs.length) :
    Turn P w K (.Tuple elts kk tpos) (ItiT d o kvs) [it] it (fun i h => ∃ ok ov, IsItemIter h it d i kvs.length ep ok ov) where
  mem := by simp
  obj := fun i h st b hb => by
    obtain rfl : b = it := by simpa using hb
    obtain ⟨ok, ov, e⟩ := st
    exact ⟨_, e, fun v z => nomatch z⟩
  keep := fun i h h' st k => by
    obtain ⟨ok, ov, e⟩ := st
    exact ⟨ok, ov, k it (by simp) _ e⟩
  item := by
    intro X eP ew eK calm i pins s σ H E I hf st gone
    subst eP ew eK
    obtain ⟨hd, hi⟩ := gone
    obtain ⟨hs, es', ep', hraw, hdt, hsz, ent⟩ := frz_T I hd
    obtain ⟨rfl, rfl⟩ := dict_ep hod hdt
    obtain ⟨ok, ov, he⟩ := st
    rw [← hsz] at he
    have hlt : it < s.heap.objs.size := Heap.lt_size he
    have hi' : i < es'.size := by omega
    obtain ⟨⟨k, v⟩, hkv⟩ : ∃ p, kvs[i]? = some p := ⟨kvs[i], List.getElem?_eq_getElem hi⟩
    obtain ⟨en, q, hen, hkey, hq, hval⟩ := ent i k v hkv
    have een : es'[i] = en := by
      rw [Array.getElem?_eq_getElem hi'] at hen
      exact Option.some.inj hen
    refine wpAny_pyNext_items_item_raw he hraw hi' fun h' ho hT hz hk => ?_
    rw [een] at ho hT
    refine ⟨_, rfl, wpAny_letOwnedTupleGo_items (s := { s with heap := h' }) ho fun h'' he' sb => ?_⟩
    have hT2 : h''.get? s.heap.objs.size = some { cls := .type "tuple", data := .seq #[en.key, en.val] } := (sb.2 _ (Nat.ne_of_gt hlt)).trans hT
    have new : ObjOk X.prog X.w (upd H s.heap.objs.size (.tup [.ref q, v])) h'' s.heap.objs.size (.tup [.ref q, v]) :=
      ⟨by show 2 ≤ sizeLine; decide, [en.key, en.val], .cons hkey (.cons hval .nil), ⟨_, hT2, rfl, _, rfl⟩⟩
    have I1 : Inv X pins σ (upd H s.heap.objs.size (.tup [.ref q, v])) { s with heap := h'' } :=
      I.turnedNew (t' := s.toks) (ch := [it]) (fun b ob hb e => (sb.2 b (by simpa using hb)).trans (hk b ob (by simpa using hb) e)) hf (Nat.le_refl _) new
    refine ⟨.ref s.heap.objs.size, _, I1, rfl, ⟨_, q, k, v, hkv, rfl, I.hok.fresh (Nat.le_refl _), hq, rfl⟩, ⟨en.key, en.val, ?_⟩, fun b hb => ?_⟩
    · rw [← hsz]
      exact he'
    · obtain rfl : b = it := by simpa using hb
      rw [upd_ne (Nat.ne_of_lt hlt)]
      exact (hf b (by simp)).1
  done := by
    intro X eP ew eK calm i pins s σ H E I hf st gone
    subst eP ew eK
    obtain ⟨hd, hi⟩ := gone
    obtain ⟨f0, f1, f2, f3, f4, f5⟩ := hf it (by simp)
    obtain ⟨hs, es', ep', hraw, hdt, hsz, ent⟩ := frz_T I hd
    obtain ⟨rfl, rfl⟩ := dict_ep hod hdt
    obtain ⟨ok, ov, he⟩ := st
    rw [← hsz] at he
    exact wpAny_pyNext_items_end_raw (I.ok.hd calm) he hraw (by omega) fun h' eb => ⟨rfl, I.turned (t' := s.toks) (fun b ob hb e => eb b ob hb e) f0 f1 f3 f4 f5⟩
  self := fun A i s Q E st h => by
    obtain ⟨_, _, e⟩ := st
    exact PySem.W.kcp_self e h
def iItemsT (td : TE) : TI := fun σ H R => td σ H fun x H1 => ∃ d o kvs, x = .ref d ∧ H1 d = some (.frz o (.dT kvs)) ∧ R (ItiT d o kvs) H1
theorem pi_itemsT {X : Cx} {e : Expr} {td : TE} {apos cpos tpos : Pos} {elts : List Expr} {kk : Nat} (he : PE X e td) (hbase : attributeBase e "items" X.env (eval e X.env) = eval e X.env := by rfl) (hline : (apos.endLine == cpos.line) = true := by rfl) :
    L2.PI X (.Tuple elts kk tpos) (.Call (.Attribute e "items" apos) [] [] cpos) (iItemsT td) := by
  refine ⟨fun pins s σ H R I h => wpAny_Call_method (T := "dict") (id := "dict.items") hbase rfl hline F.plainAttrs_dict F.slot_dict_items F.type_dict_items (thn (he.run pins s σ H _ I h) fun u s1 r0 => ?_)⟩
  obtain ⟨x, H1, I1, rx, d, o, kvs, ex, hd, q⟩ := r0
  subst ex
  obtain rfl : u = Value.ref d := rx
  obtain ⟨hs, es, ep, hraw, hdt, hsz, ent⟩ := frz_T I1 hd
  refine ⟨hraw.typeIs, ?_, ?_⟩
  · obtain ⟨o', h1, h2, _⟩ := hraw
    intro b eb
    cases eb
    exact ⟨o', h1, h2.2.1⟩
  have I2 : Inv X pins σ H1 { s1 with heap := s1.heap.push { cls := .type "dict_items", data := .fields #[.ref d] } } := I1.kept (t' := s1.toks) fun b ob q => Heap.get?_push_of_some _ q
  have fin : wpAny (model X.prog X.w) X.A (pyIter (.ref s1.heap.objs.size)) (PIE X pins σ (.Tuple elts kk tpos) R) X.xe { s1 with heap := s1.heap.push { cls := .type "dict_items", data := .fields #[.ref d] } } := by
    refine wpAny_pyIter_items_raw (d := d) (es := es) (ep := ep) ⟨_, Heap.get?_push_size _ rfl, rfl, rfl⟩ (hraw.at fun o e => Heap.get?_push_of_some _ e) (pi_one (tk := s1.toks) I2 _ (turn_itemsT _ hdt hsz) ⟨.none, .none, ?_⟩ q)
    rw [← hsz]
    exact Heap.get?_push_size _ rfl
  show wpAny _ _ (callWith cpos (.builtin "dict.items") [.ref d] [] []) _ X.xe s1
  exact method_meetsIn F.slot_dict_items F.entry_dict_items rfl (PySem.evalArgs_none ⟨rfl, hraw.typeIs, F.args_dict_items_1 _, _, meets_dict_items_raw d hs, ⟨es, ep, hraw⟩, fin⟩)
end Crx

set_option maxHeartbeats 4000000
/-! Crx5: == of data, tuple * int, enumerate in loops. -/
namespace Crx
open PySem PySem.Spec PyProof.Rows L2

section
variable {M : Md} {σ : L2.St} {H H' : Hp} {ta tb te : TE} {d e : PyData} {ds es : List PyData}
mutual
theorem dp_same {K : PySem.W.Frag} (s : Same H H') : ∀ {d : PyData} {v : V}, Dp K H v d → Dp K H' v d
  | .none, _, h => by cases h; exact .non
  | .bool _, _, h => by cases h; exact .bl _
  | .int _, _, h => by cases h; exact .int _
  | .str _, _, h => by cases h; exact .str _
  | .list _, _, h => by
    cases h with
    | lst a b => exact .lst (s.seq a) (dpa_same s b)
  | .tuple _, _, h => by
    cases h with
    | tup a b => exact .tup (same_t s a) (dpa_same s b)
  | .dict _, _, h => by cases h
theorem dpa_same {K : PySem.W.Frag} (s : Same H H') : ∀ {ds : List PyData} {vs : List V}, DpAll K H vs ds → DpAll K H' vs ds
  | [], _, h => by cases h; exact .nil
  | _ :: _, _, h => by
    cases h with
    | cons a b => exact .cons (dp_same s a) (dpa_same s b)
end
abbrev PQ (M : Md) (d : PyData) : V → Hp → Prop := fun v H => Dp M.K H v d
theorem Ev.qD (h : Ev te σ H (PD M d)) : Ev te σ H (PQ M d) := h.imp fun _ _ _ p => p.dp
theorem Ev.qL (h : Ev te σ H (PL M ds)) : Ev te σ H (PQ M (.list ds)) := h.imp fun _ _ _ ⟨p, xs, e, hs, hd⟩ => by
  subst e
  exact .lst (SqL.of hs) hd.dp
theorem ev_eqD (ha : Ev ta σ H (PQ M d)) (hb : ∀ H1, Same H H1 → Ev tb σ H1 (PQ M e)) (h1 : SeqAt.shaped d = true) (h2 : SeqAt.shaped e = true) : Ev (tOp (rEqD M.K) ta tb) σ H (PB (PyData.eqv d e)) :=
  ev_op ha (fun _ H1 s1 _ => hb H1 s1) fun x y H1 H2 s1 s2 p1 p2 Q q => ⟨d, e, dp_same s2 p1, p2, h1, h2, q _ H2 (Same.refl _) rfl⟩
theorem ev_neD (ha : Ev ta σ H (PQ M d)) (hb : ∀ H1, Same H H1 → Ev tb σ H1 (PQ M e)) (h1 : SeqAt.shaped d = true) (h2 : SeqAt.shaped e = true) : Ev (tOp (rNeD M.K) ta tb) σ H (PB (!PyData.eqv d e)) :=
  ev_op ha (fun _ H1 s1 _ => hb H1 s1) fun x y H1 H2 s1 s2 p1 p2 Q q => ⟨d, e, dp_same s2 p1, p2, h1, h2, q _ H2 (Same.refl _) rfl⟩
end
/-! ### the shape of data -/
theorem lay_all : ∀ {ds : List PyData}, (∀ d ∈ ds, d.canLay0 = true) → PyData.canLayAll0 ds = true
  | [], _ => by rw [PyData.canLayAll0]
  | d :: ds, h => by
    rw [PyData.canLayAll0, h d (List.mem_cons_self ..), lay_all fun e he => h e (List.mem_cons_of_mem _ he)]
    rfl
theorem depth_all {n : Nat} : ∀ {ds : List PyData}, (∀ d ∈ ds, d.depth ≤ n) → PyData.depthAll ds ≤ n
  | [], _ => by rw [PyData.depthAll]; exact Nat.zero_le _
  | d :: ds, h => by
    rw [PyData.depthAll]
    have h1 := h d (List.mem_cons_self ..)
    have h2 := depth_all fun e he => h e (List.mem_cons_of_mem _ he)
    omega
/-- no dict in it, nested at most n deep -/
def Flt (n : Nat) (d : PyData) : Prop := d.canLay0 = true ∧ d.depth ≤ n
theorem Flt.mono {m n : Nat} {d : PyData} (h : Flt m d) (hn : m ≤ n) : Flt n d := ⟨h.1, Nat.le_trans h.2 hn⟩
theorem Flt.int {n : Nat} (i : Int) : Flt n (.int i) := ⟨by rw [PyData.canLay0], by rw [PyData.depth]; exact Nat.zero_le _⟩
theorem Flt.bl {n : Nat} (i : Bool) : Flt n (.bool i) := ⟨by rw [PyData.canLay0], by rw [PyData.depth]; exact Nat.zero_le _⟩
theorem Flt.non {n : Nat} : Flt n .none := ⟨by rw [PyData.canLay0], by rw [PyData.depth]; exact Nat.zero_le _⟩
theorem Flt.tup {n : Nat} {ds : List PyData} (h : ∀ d ∈ ds, Flt n d) : Flt (n + 1) (.tuple ds) := ⟨by rw [PyData.canLay0]; exact lay_all fun d hd => (h d hd).1, by rw [PyData.depth]; exact Nat.succ_le_succ (depth_all fun d hd => (h d hd).2)⟩
theorem Flt.lst {n : Nat} {ds : List PyData} (h : ∀ d ∈ ds, Flt n d) : Flt (n + 1) (.list ds) := ⟨by rw [PyData.canLay0]; exact lay_all fun d hd => (h d hd).1, by rw [PyData.depth]; exact Nat.succ_le_succ (depth_all fun d hd => (h d hd).2)⟩
theorem Flt.shaped {n : Nat} {d : PyData} (h : Flt n d) (hn : n ≤ 64 := by decide) : SeqAt.shaped d = true := by
  unfold SeqAt.shaped
  rw [h.1, decide_eq_true (Nat.le_trans h.2 hn)]
  rfl
theorem Flt.ints {n : Nat} (ns : List Int) : Flt (n + 1) (.tuple (ns.map PyData.int)) := .tup fun d hd => by
  obtain ⟨i, _, rfl⟩ := List.mem_map.mp hd
  exact .int i
theorem Flt.intsL {n : Nat} (ns : List Int) : Flt (n + 1) (.list (ns.map PyData.int)) := .lst fun d hd => by
  obtain ⟨i, _, rfl⟩ := List.mem_map.mp hd
  exact .int i
theorem eqv_ints : ∀ (ns ms : List Int), PyData.eqvAll (ns.map PyData.int) (ms.map PyData.int) = decide (ns = ms)
  | [], [] => by rw [List.map_nil, PyData.eqvAll]; rfl
  | [], m :: ms => by rw [List.map_nil, List.map_cons, PyData.eqvAll]; rfl
  | n :: ns, [] => by rw [List.map_nil, List.map_cons, PyData.eqvAll]; rfl
  | n :: ns, m :: ms => by
    rw [List.map_cons, List.map_cons, PyData.eqvAll, PyData.eqv, eqv_ints ns ms]
    by_cases h : n = m
    · subst h
      by_cases h2 : ns = ms <;> simp [h2]
    · simp [h]
theorem eqv_dI (ns ms : List Int) : PyData.eqv (.tuple (ns.map PyData.int)) (.tuple (ms.map PyData.int)) = decide (ns = ms) := by rw [PyData.eqv, eqv_ints]
theorem eqv_lI (ns ms : List Int) : PyData.eqv (.list (ns.map PyData.int)) (.list (ms.map PyData.int)) = decide (ns = ms) := by rw [PyData.eqv, eqv_ints]

section
variable {M : Md} {σ : L2.St} {H H' : Hp} {ta tb te ts : TE} {ds : List PyData} {ns : List Int}
theorem flat_rep (x : PyData) (k : Nat) : (List.replicate k [x]).flatten = List.replicate k x := by
  induction k with
  | zero => rfl
  | succ k ih => rw [List.replicate_succ, List.flatten_cons, ih, List.replicate_succ]; rfl
theorem flat_repV (x : V) (k : Nat) : (List.replicate k [x]).flatten = List.replicate k x := by
  induction k with
  | zero => rfl
  | succ k ih => rw [List.replicate_succ, List.flatten_cons, ih, List.replicate_succ]; rfl
theorem DtA.rep {v : V} {d : PyData} (h : Dt M H v d) : ∀ k : Nat, DtA M H (List.replicate k v) (List.replicate k d)
  | 0 => .nil
  | k + 1 => .cons h (DtA.rep h k)
/-- (x,) * k -/
theorem ev_rep1 {d : PyData} {k : Nat} (ha : Ev ta σ H (PD M (.tuple [d]))) (hb : ∀ H1, Same H H1 → Ev tb σ H1 (PI (k : Int))) (h2 : 2 ≤ k) (hk : k ≤ 1000) : Ev (tOp (rRepT M.K) ta tb) σ H (PD M (.tuple (List.replicate k d))) :=
  ev_op ha (fun _ H1 s1 _ => hb H1 s1) fun x y H1 H2 s1 s2 p1 p2 Q q => by
    obtain ⟨a, xs, rfl, hs, hd⟩ := Dt.sq (Dt.kp (Kp.of s2) p1)
    obtain rfl : y = .int k := p2
    cases hd with
    | @cons v0 _ _ _ d1 hn =>
      cases hn
      refine ⟨a, k, _, rfl, rfl, hs, List.cons_ne_nil _ _, by omega, by omega, (by show 1 ≤ 1000; omega), fun p hp => ?_⟩
      rw [show (k : Int).toNat = k from rfl, flat_repV]
      have sn : Same H2 (upd H2 p (.tup (List.replicate k v0))) := same_new hp
      exact q _ _ sn (.tup (.inl (.inl upd_same)) (DtA.rep (d1.kp (Kp.of sn)) k))
theorem evi_enumT (h : Ev ts σ H (PD M (.tuple ds))) : EvI M (iEnumT M.K (tCons ts tNil)) σ H ds.length fun i x H' => ∃ d v a, ds[i]? = some d ∧ x = .ref a ∧ SqT M.K H' a [.int (i : Nat), v] ∧ Dt M H' v d := fun R q =>
  h _ fun x H1 s1 e => by
    obtain ⟨a, xs, rfl, hs, hd⟩ := Dt.sq e
    refine ⟨a, xs, rfl, hs, q (IteT M.K a) H1 (fun H' => SqT M.K H' a xs ∧ DtA M H' xs ds) s1 ⟨hs, hd⟩ (fun H' H'' k z => ⟨k.sq z.1, DtA.kp k z.2⟩) (fun i H' z hi => ?_) (fun H' z => ⟨xs, z.1, hd.len⟩) fun i H' y H'' z hi yl => ?_⟩
    · have hx : i < xs.length := by rw [hd.len]; exact hi
      exact ⟨xs, xs[i], z.1, List.getElem?_eq_getElem hx⟩
    · obtain ⟨T, x, rfl, hT, rfl, ex⟩ := yl
      obtain ⟨d, h1, h2⟩ := z.2.get' (ex xs z.1)
      have sn : Same H' (upd H' T (.tup [.int (i : Nat), x])) := same_new hT
      exact ⟨sn, d, x, T, h1, rfl, .inl (.inl upd_same), h2.kp (Kp.of sn)⟩
/-- tuple(list(range(n))), tuple(range(n)) -/
def upTo (n : Nat) : List Int := (List.range n).map Int.ofNat
theorem rg_upTo (n : Nat) : rgV 0 (n : Int) = (upTo n).map V.int := by
  unfold rgV upTo
  rw [List.map_map, show ((n : Int) - 0).toNat = n from by omega]
  refine List.map_congr_left fun i _ => ?_
  show V.int (0 + (i : Int)) = V.int (i : Int)
  rw [Int.zero_add]
theorem ev_lrange {n : Nat} (h : Ev te σ H (PI (n : Int))) (hn : n ≤ 1000) : Ev (tLstRg (tRg1 te)) σ H (PL M ((upTo n).map PyData.int)) := fun Q q =>
  h _ fun x H1 s1 e => ⟨n, e, .of_le (by omega) (by omega) (by omega) (by omega), fun p hp => by
    rw [rg_upTo]
    exact q _ _ (s1.trans (same_new hp)) ⟨p, _, rfl, upd_same, .ints _⟩⟩
theorem ev_trange {n : Nat} (h : Ev te σ H (PI (n : Int))) (hn : n ≤ 1000) : Ev (tTupRg (tRg1 te)) σ H (PD M (.tuple ((upTo n).map PyData.int))) := fun Q q =>
  h _ fun x H1 s1 e => ⟨n, e, .of_le (by omega) (by omega) (by omega) (by omega), fun p hp => by
    rw [rg_upTo]
    exact q _ _ (s1.trans (same_new hp)) (.tup (.inl (.inl upd_same)) (.ints _))⟩
theorem upTo_get {n i : Nat} (h : i < n) : (upTo n)[i]? = some (i : Int) := by
  unfold upTo
  rw [List.getElem?_map, List.getElem?_range h]
  rfl
theorem upTo_len (n : Nat) : (upTo n).length = n := by unfold upTo; rw [List.length_map, List.length_range]
end
end Crx

set_option maxHeartbeats 4000000
/-! Crx6: own classes: ==, !=, len, str, repr, bool of their instances. -/
namespace Crx
open PySem PySem.Spec PyProof.Rows L2

/-! ### a special def, as a caller knows it -/
section
variable (P : Program) (w : World) (K : PySem.W.Frag) (mg : Str → Option Value) (base : Heap)
structure Dun (C : Addr) (m : Str) (k : Nat) (sp : Sp) : Prop where
  ex : ∃ f fd ps, FnOk P w K mg base CX0 k f fd ps sp ∧ PySem.W.findIn K (.ref C) m = some (some (.ref f)) ∧ PySem.W.isFn K (.ref f) = true ∧ Binds K fd ps []
end
section
variable {X : Cx} {pins : List (Addr × Obj)} {σ : L2.St} {H : Hp} {s : Shared} {k : Nat} {f C : Addr} {fd : FuncData} {ps : List Str} {sp : Sp} {m : Str}
theorem run_in {A : Around} {Q : VK} {us : List Value} {vs : List V} (F : FnOk X.prog X.w X.K X.mg X.base CX0 k f fd ps sp) (hr : Room k A) (hb : Binds X.K fd ps [])
    (e0 : Env0 X.prog X.w X.K X.mg X.base A X.stack s H) (I : Inv X pins σ H s) (r : Vals vs us) (h : sp vs H Q E0) :
    wpAny (model X.prog X.w) A (call (.ref f) us) (EP X pins σ Q) X.xe s := by
  have hl : us.length = ps.length := by
    rw [← r.length]
    exact F.len _ _ _ _ h
  have hb' := hb s us I.kIn (by rw [List.append_nil]; exact hl)
  rw [List.append_nil] at hb'
  refine wpAny_call (codeAny_mono (F.run A X.stack s H ⟨us, []⟩ us vs Q E0 hr e0 hb' r h) ?_)
  intro res s' hq
  cases res with
  | error e => exact False.elim hq
  | ok fl =>
    cases fl with
    | ret u => exact I.after hq
    | _ => exact False.elim hq
/-- the type of a value -/
theorem looks_ty {M : Model} {H : Hp} {x : V} {u t : Value} (I : Inv X pins σ H s) (rx : RelV x u) (ty : TyX X.K H x t) : PySem.W.Looks M s.heap (typeOf u) t := by
  obtain ⟨P, Z, p, _⟩ := kit_of I rx ty
  exact Z.ty M _ I.kIn p
/-! ### == -/
def rOwnQ (K : PySem.W.Frag) (C : Addr) (sp : Sp) : R2 := fun x y H Q => ∃ a dx fs t, x = .ref a ∧ H a = some (.ins C dx fs) ∧ TyX K H y t ∧ PySem.W.notFirst K C t = true ∧ sp [x, y] H Q E0
theorem op_ownQ (d : Dun X.prog X.w X.K X.mg X.base C "__eq__" k sp) (hr : Room k X.A) : OpR X (compareOp .Eq) (rOwnQ X.K C sp) := by
  intro pins s σ H x y v u Q I rx ry h
  obtain ⟨f, fd, ps, Fo, hs, hf, hb⟩ := d.ex
  obtain ⟨a, dx, fs, t, rfl, ha, ty, hn, q⟩ := h
  cases (show v = Value.ref a from rx)
  obtain ⟨mA, O, _⟩ := ins_get I.hok ha
  obtain ⟨od, J, _⟩ := O.look
  obtain ⟨m, hF⟩ := I.fr
  show wpAny (model X.prog X.w) X.A (richCompare .Eq (.ref a) u) _ _ _
  refine PySem.W.cmp_K (op := .Eq) (tb := t) hr.units0 hF I.ok.mod.kin J (looks_ty I ry ty) hn hs hf ?_
  refine wpAny_mono (run_in (us := [.ref a, u]) (vs := [.ref a, y]) Fo hr hb I.env0 I (.cons rfl (.cons ry .nil)) q) (fun w s' z => ?_) fun _ _ x => x
  obtain ⟨z', H', I', rz, qz⟩ := z
  exact SlX.cmpback rz ⟨z', H', I', rz, qz⟩
/-! ### != by object.__ne__ -/
def rOwnN (K : PySem.W.Frag) (C : Addr) (sp : Sp) : R2 := fun x y H Q => ∃ a dx fs t, x = .ref a ∧ H a = some (.ins C dx fs) ∧ TyX K H y t ∧ PySem.W.notFirst K C t = true ∧ sp [x, y] H (fun v H' => ∃ b, v = .bl b ∧ Q (.bl (!b)) H') E0
structure NeOk (K : PySem.W.Frag) (C : Addr) : Prop where
  ne : PySem.W.findIn K (.ref C) "__ne__" = some (some (.builtin "object.__ne__"))
  mo : PySem.W.mroIn K C (.type "object") = some true
theorem ifBound_B {M : Model} {A : Around} {E : Value → Shared → Prop} {K : PySem.W.Frag} {x : Addr} {ox : Obj} {od : Option Obj} {name : Str} {id : String} {args : List Value} {Q : Option Value → Shared → Prop} (X : K.In s.heap)
    (I : PySem.W.InstAt s.heap x ox C od) (hs : PySem.W.findIn K (.ref C) name = some (some (.builtin id))) (hb : ∀ self, bindSpecial (.builtin id) self = pure (.builtin id, [self]))
    (h : wpAny M A (call (.builtin id) (.ref x :: args)) (fun v => Q (some v)) E s) : wpAny M A (callSpecialIfBound? (.ref x) name args) Q E s := by
  simp only [callSpecialIfBound?, bindSpecialIfBound?, hb]
  refine wpAny_holding ?_
  refine wpAny_bind (wpAny_bind (wpAny_bind (I.type.here ?_)))
  refine (PySem.W.looks_findIn X hs).here ?_
  refine wpAny_bind ?_
  refine wpAny_askSetting ?_
  refine wpAny_ite ?_
  have fin : wpAny M A (call (.builtin id) ([.ref x] ++ args) >>= fun v => pure (some v)) Q E s :=
    wpAny_bind (wpAny_mono h (fun v s' z => wpAny_pure z) fun _ _ z => z)
  split
  · exact wpAny_bind (wpAny_of_eq (hb _) (wpAny_pure (by exact fin)))
  · exact wpAny_tryCatch (wpAny_bind (wpAny_of_eq (hb _) (wpAny_pure (by exact fin))))
theorem ne_entry {prog : Program} {w : World} {A : Around} {E : Value → Shared → Prop} {K : PySem.W.Frag} {x f : Addr} {b : Value} {ox : Obj} {od : Option Obj} {Q : Fin → Shared → Prop} (X : K.In s.heap)
    (I : PySem.W.InstAt s.heap x ox C od) (hs : PySem.W.findIn K (.ref C) "__eq__" = some (some (.ref f))) (hf : PySem.W.isFn K (.ref f) = true) (hu : A.units < cLine)
    (h : wpAny (model prog w) A (call (.ref f) [.ref x, b]) (fun v s' => ∃ k, v = .bool k ∧ Q (.done (.ret (.bool (!k)))) s') E s) :
    wpAny (model prog w) A (Builtin.«object.__ne__» ⟨[.ref x, b], []⟩) Q E s := by
  unfold Builtin.«object.__ne__»
  refine wpAny_bind (wpAny_pure ?_)
  refine wpAny_bind (wpAny_cRoomFor hu ?_)
  refine wpAny_bind (m := callSpecialIfBound? (.ref x) (Str.ofString "__eq__") [b]) (PySem.W.ifBound_K X I hs hf (wpAny_mono h (fun v s' z => ?_) fun _ _ z => z))
  obtain ⟨k, rfl, q⟩ := z
  exact wpAny_bind (wpAny_truthy_bool (wpAny_pure q))
theorem op_ownN (d : Dun X.prog X.w X.K X.mg X.base C "__eq__" k sp) (n : NeOk X.K C) (hr : Room (k + 1) X.A) : OpR X (compareOp .NotEq) (rOwnN X.K C sp) := by
  intro pins s σ H x y v u Q I rx ry h
  obtain ⟨f, fd, ps, Fo, hs, hf, hb⟩ := d.ex
  obtain ⟨a, dx, fs, t, rfl, ha, ty, hn, q⟩ := h
  cases (show v = Value.ref a from rx)
  obtain ⟨mA, O, _⟩ := ins_get I.hok ha
  obtain ⟨od, J, _⟩ := O.look
  have hr1 : Room k X.A.in1 := hr.in1
  have Kx := I.kIn
  have one : wpAny (model X.prog X.w) X.A (tryCompare (.ref a) "__ne__" u) (fun r s' => ∃ v, r = some v ∧ EP X pins σ Q v s') X.xe s := by
    unfold tryCompare
    refine wpAny_bind (ifBound_B Kx J n.ne F.slot_object_ne.bind ?_)
    have hi : PySem.W.Looks (model X.prog X.w) s.heap (isInstance (.ref a) (.type "object")) true := J.type.andThen (PySem.W.looks_subIn (t := .ref C) Kx n.mo)
    refine wpAny_call (codeAny_call_builtin F.slot_object_ne.plain F.entry_object_ne (PySem.W.check_slot (owner := "object") (n := "__ne__") (by decide +kernel) (by decide +kernel) hi (F.args_object_ne_2 _ _) ?_))
    refine ne_entry Kx J hs hf hr1.units0 ?_
    refine wpAny_mono (run_in (us := [.ref a, u]) (vs := [.ref a, y]) Fo hr1 hb I.env0.in1 I (.cons rfl (.cons ry .nil)) q) (fun w s' z => ?_) fun _ _ x => x
    obtain ⟨z', H', I', rz, b, rfl, qz⟩ := z
    cases (show w = Value.bool b from rz)
    exact ⟨b, rfl, wpAny_pure ⟨_, rfl, .bl (!b), H', I', rfl, qz⟩⟩
  show wpAny (model X.prog X.w) X.A (richCompare .NotEq (.ref a) u) _ _ _
  unfold richCompare
  simp only [oneThing_ref]
  refine wpAny_holding (wpAny_bind (wpAny_cRoomFor hr.units0 ?_))
  refine wpAny_bind (J.type.here (wpAny_bind ((looks_ty I ry ty).here ?_)))
  have fin : ∀ {r : Option Value} {s' : Shared} {g : Sem Value}, (∃ v, r = some v ∧ EP X pins σ Q v s') → (∀ v, r = some v → g = pure v) → wpAny (model X.prog X.w) X.A g (EP X pins σ Q) X.xe s' := fun ⟨v, e, q⟩ hg => by
    rw [hg v e]
    exact wpAny_pure q
  split
  · rename_i z
    have e : PySem.W.subIn X.K t (.ref C) = some false := by
      rcases Bool.or_eq_true_iff.mp hn with e | e
      · rw [beq_iff_eq.mp e] at z
        simp at z
      · exact beq_iff_eq.mp e
    refine wpAny_bind ((PySem.W.looks_subIn Kx e).here ?_)
    rw [if_neg Bool.false_ne_true]
    refine wpAny_bind (wpAny_mono one (fun r s' z => ?_) fun _ _ e => e)
    obtain ⟨v, rfl, hq⟩ := z
    exact wpAny_pure hq
  · refine wpAny_bind (wpAny_pure ?_)
    rw [if_neg Bool.false_ne_true]
    refine wpAny_bind (wpAny_mono one (fun r s' z => ?_) fun _ _ e => e)
    obtain ⟨v, rfl, hq⟩ := z
    exact wpAny_pure hq

/-! ### len(x) -/
def rOwnLen (C : Addr) (sp : Sp) : R1 := fun xs H Q => ∃ a dx fs, xs = [.ref a] ∧ H a = some (.ins C dx fs) ∧ sp [.ref a] H (fun v H' => ∃ n : Nat, v = .int n ∧ (n : Int) < 2 ^ 63 ∧ Q v H') E0
theorem cr_ownLen (d : Dun X.prog X.w X.K X.mg X.base C "__len__" k sp) (hr : Room (k + 1) X.A) : CallR X (.builtin "len") (rOwnLen C sp) := by
  intro pins s σ H xs us Q I r h
  obtain ⟨f, fd, ps, Fo, hs, hf, hb⟩ := d.ex
  obtain ⟨a, dx, fs, rfl, ha, q⟩ := h
  obtain rfl := Vals.ref1 r
  obtain ⟨mA, O, _⟩ := ins_get I.hok ha
  obtain ⟨od, J, _⟩ := O.look
  obtain ⟨m, hF⟩ := I.fr
  refine PySem.W.len_K hF I.ok.mod.kin J hs hf (wpAny_mono (run_in (us := [.ref a]) (vs := [.ref a]) Fo hr.in1 hb I.env0.in1 I (.cons rfl .nil) q) (fun w s' z => ?_) fun _ _ x => x)
  obtain ⟨z', H', I', rz, n, rfl, hn, qz⟩ := z
  obtain ⟨t, rfl⟩ := (show ∃ t, w = Value.int n t from rz)
  exact ⟨⟨Int.natCast_nonneg n, hn⟩, .int n, H', I'.tok _, ⟨_, rfl⟩, qz⟩
/-! ### repr(x), str(x) -/
def rOwnTxt (C : Addr) (sp : Sp) : R1 := fun xs H Q => ∃ a dx fs, xs = [.ref a] ∧ H a = some (.ins C dx fs) ∧ sp [.ref a] H (fun v H' => ∃ z, v = .str z ∧ Q v H') E0
theorem cr_ownRepr (d : Dun X.prog X.w X.K X.mg X.base C "__repr__" k sp) (hr : Room (k + 1) X.A) : CallR X (.builtin "repr") (rOwnTxt C sp) := by
  intro pins s σ H xs us Q I r h
  obtain ⟨f, fd, ps, Fo, hs, hf, hb⟩ := d.ex
  obtain ⟨a, dx, fs, rfl, ha, q⟩ := h
  obtain rfl := Vals.ref1 r
  obtain ⟨mA, O, _⟩ := ins_get I.hok ha
  obtain ⟨od, J, _⟩ := O.look
  obtain ⟨m, hF⟩ := I.fr
  refine PySem.W.repr_K hr.in1.units0 hF I.ok.mod.kin J hs hf (wpAny_mono (run_in (us := [.ref a]) (vs := [.ref a]) Fo hr.in1 hb I.env0.in1 I (.cons rfl .nil) q) (fun w s' z => ?_) fun _ _ x => x)
  obtain ⟨z', H', I', rz, z, rfl, qz⟩ := z
  obtain ⟨t, rfl⟩ := (show ∃ t, w = Value.str z t from rz)
  exact ⟨.str z, H', I', ⟨_, rfl⟩, qz⟩
theorem cr_ownStr (d : Dun X.prog X.w X.K X.mg X.base C "__str__" k sp) (hr : Room (k + 2) X.A) : CallR X (.type "str") (rOwnTxt C sp) := by
  intro pins s σ H xs us Q I r h
  obtain ⟨f, fd, ps, Fo, hs, hf, hb⟩ := d.ex
  obtain ⟨a, dx, fs, rfl, ha, q⟩ := h
  obtain rfl := Vals.ref1 r
  obtain ⟨mA, O, _⟩ := ins_get I.hok ha
  obtain ⟨od, J, _⟩ := O.look
  have hr2 : Room k X.A.in1.in1 := (show Room (k + 1) X.A.in1 from hr.in1).in1
  have key : wpAny (model X.prog X.w) X.A.in1.in1 (Builtin.Str.strOf (.ref a)) (fun u s' => ∃ z t, u = Value.str z t ∧ EP X pins σ Q u s') X.xe s := by
    unfold Builtin.Str.strOf
    rw [show Builtin.Str.isExactStr (.ref a) = false from rfl, if_neg Bool.false_ne_true]
    refine wpAny_bind (wpAny_cRoomFor hr2.units0 ?_)
    refine wpAny_bind (m := callSpecial? (.ref a) (Str.ofString "__str__")) (PySem.W.special_fn I.kIn J hs (beq_iff_eq.mp hf) ?_)
    refine wpAny_mono (run_in (us := [.ref a]) (vs := [.ref a]) Fo hr2 hb I.env0.in1.in1 I (.cons rfl .nil) q) (fun w s' z => ?_) fun _ _ x => x
    obtain ⟨z', H', I', rz, z, rfl, qz⟩ := z
    obtain ⟨t, rfl⟩ := (show ∃ t, w = Value.str z t from rz)
    exact wpAny_bind (wpAny_pure (wpAny_pure ⟨z, t, rfl, .str z, H', I', ⟨_, rfl⟩, qz⟩))
  refine callType_codes (T := "str") (Bi := Builtin.«object.__init__») (Q₁ := fun u s' => ∃ z t, u = Value.str z t ∧ EP X pins σ Q u s') PySem.F.called_str (PySem.F.typeCall_str_1 _) PySem.F.entry_object_init ?_ ?_
  · refine codeAny_of_tree ?_
    show wpAny _ X.A.in1.in1 (do checkBuiltinCall "str.__new__" ⟨[.type "str", .ref a], []⟩; again (.builtin "str.__new__" ⟨[.type "str", .ref a], []⟩)) _ _ s
    refine wpAny_bind (wpAny_of_eq (PySem.F.newCall_str_1 _) (wpAny_pure ⟨plainId_quiet (by decide +kernel) _, codeAny_builtin PySem.F.entry_str_new ?_⟩))
    rw [Around.under_plainId (by decide +kernel) _, str_new_tree]
    refine wpAny_bind (wpAny_pure ?_)
    refine wpAny_bind (wpAny_of_eq isSubtype_str_str ?_)
    exact wpAny_bind (wpAny_mono key (fun r s' z => wpAny_pure z) fun _ _ e => e)
  · rintro obj s1 ⟨z, t, rfl, hq⟩
    exact ⟨typeIs_str _ _ _, PySem.F.args_object_init_2 _ _, object_init_meets PySem.F.called_str.init.lookup PySem.F.called_str.made (by decide) X.prog X.w X.A.in1 _ s1 ⟨typeIs_str _ _ _, rfl, hq⟩⟩
/-! ### bool(x) by __len__ -/
structure NoBool (K : PySem.W.Frag) (C : Addr) : Prop where
  nb : PySem.W.findIn K (.ref C) "__bool__" = some none
theorem truthy_len (d : Dun X.prog X.w X.K X.mg X.base C "__len__" k sp) (nb : NoBool X.K C) {A : Around} (hr : Room (k + 1) A) {a dx : Addr} {fs : List (Str × V)} {Q : Bool → Shared → Prop} (I : Inv X pins σ H s) (e0 : Env0 X.prog X.w X.K X.mg X.base A X.stack s H)
    (ha : H a = some (.ins C dx fs)) (q : sp [.ref a] H (fun v H' => ∃ n : Nat, v = .int n ∧ (n : Int) < 2 ^ 63 ∧ ∀ s', Inv X pins σ H' s' → Q (n != 0) s') E0) : wpAny (model X.prog X.w) A (truthy (.ref a)) Q X.xe s := by
  obtain ⟨f, fd, ps, Fo, hs, hf, hb⟩ := d.ex
  obtain ⟨mA, O, _⟩ := ins_get I.hok ha
  obtain ⟨od, J, _⟩ := O.look
  have Kx := I.kIn
  unfold truthy
  refine wpAny_bind (m := callSpecial? (.ref a) (Str.ofString "__bool__")) (wpAny_bind (wpAny_bind (J.type.here ((PySem.W.looks_findIn Kx nb.nb).here (wpAny_pure ?_)))))
  refine wpAny_bind (wpAny_bind (J.type.here ((PySem.W.looks_findIn Kx hs).here ?_)))
  rw [if_neg (by simp)]
  have key : wpAny (model X.prog X.w) A (runValue (.builtin "len" ⟨[.ref a], []⟩)) (fun r s' => ∃ (n : Nat) (t : Tok), r = .int n t ∧ Q (n != 0) s') X.xe s := by
    refine wpAny_runValue (codeAny_builtin entry_len ?_)
    rw [Around.under_plainId plain_len _]
    unfold Builtin.«len»
    refine wpAny_bind (m := oneArg "len" _) (wpAny_pure ?_)
    refine wpAny_bind (m := callSpecial? (.ref a) (Str.ofString "__len__")) (PySem.W.special_fn Kx J hs (beq_iff_eq.mp hf) ?_)
    refine wpAny_mono (run_in (us := [.ref a]) (vs := [.ref a]) Fo hr.in1 hb e0.in1 I (.cons rfl .nil) q) (fun w s' z => ?_) fun _ _ x => x
    obtain ⟨z', H', I', rz, n, rfl, hn, qz⟩ := z
    obtain ⟨t, rfl⟩ := (show ∃ t, w = Value.int n t from rz)
    refine wpAny_bind (wpAny_holding (wpAny_pure ?_))
    refine wpAny_bind (wpAny_letGo ?_)
    show wpAny _ _ (if (n : Int) < 0 then _ else _) _ _ _
    rw [if_neg (by omega)]
    show wpAny _ _ (if (n : Int) ≥ 2 ^ 63 then _ else _) _ _ _
    rw [if_neg (by omega)]
    exact wpAny_bind (wpAny_mkInt (wpAny_pure ⟨n, _, rfl, qz _ (I'.tok _)⟩))
  refine wpAny_bind (wpAny_mono key (fun r s' z => ?_) fun _ _ e => e)
  obtain ⟨n, t, rfl, hq⟩ := z
  have e : ((n : Int) != 0) = (n != 0) := by cases n <;> rfl
  exact wpAny_pure (by rw [e]; exact hq)
def rOwnBool (C : Addr) (sp : Sp) : R1 := fun xs H Q => ∃ a dx fs, xs = [.ref a] ∧ H a = some (.ins C dx fs) ∧ sp [.ref a] H (fun v H' => ∃ n : Nat, v = .int n ∧ (n : Int) < 2 ^ 63 ∧ Q (.bl (n != 0)) H') E0
theorem cr_ownBool (d : Dun X.prog X.w X.K X.mg X.base C "__len__" k sp) (nb : NoBool X.K C) (hsp : ∀ vs H (Q Q' : VK), (∀ v H', Q v H' → Q' v H') → sp vs H Q E0 → sp vs H Q' E0) (hr : Room (k + 3) X.A) : CallR X (.type "bool") (rOwnBool C sp) := by
  intro pins s σ H xs us Q I r h
  obtain ⟨a, dx, fs, rfl, ha, q⟩ := h
  obtain rfl := Vals.ref1 r
  have hr2 : Room (k + 1) X.A.in1.in1 := (show Room (k + 2) X.A.in1 from hr.in1).in1
  have key : wpAny (model X.prog X.w) X.A.in1.in1 (truthy (.ref a)) (fun b s' => EP X pins σ Q (.bool b) s') X.xe s := by
    refine truthy_len d nb hr2 I I.env0.in1.in1 ha (hsp _ _ _ _ (fun v H' z => ?_) q)
    obtain ⟨n, e, hn, qz⟩ := z
    exact ⟨n, e, hn, fun s' I' => ⟨.bl (n != 0), H', I', rfl, qz⟩⟩
  refine callType_codes (T := "bool") (Bi := Builtin.«object.__init__») (Q₁ := fun u s' => ∃ b, u = Value.bool b ∧ EP X pins σ Q u s') PySem.F.called_bool (PySem.F.typeCall_bool_1 _) PySem.F.entry_object_init ?_ ?_
  · refine codeAny_of_tree ?_
    show wpAny _ X.A.in1.in1 (do checkBuiltinCall "bool.__new__" ⟨[.type "bool", .ref a], []⟩; again (.builtin "bool.__new__" ⟨[.type "bool", .ref a], []⟩)) _ _ s
    refine wpAny_bind (wpAny_of_eq (PySem.F.newCall_bool_1 _) (wpAny_pure ⟨plainId_quiet (by decide +kernel) _, codeAny_builtin PySem.F.entry_bool_new ?_⟩))
    rw [Around.under_plainId (by decide +kernel) _]
    unfold Builtin.«bool.__new__»
    refine wpAny_bind (wpAny_pure ?_)
    refine PySem.W.KFB.if_not rfl ?_
    refine wpAny_bind (wpAny_of_eq PySem.F.conv_sub_bool ?_)
    refine PySem.W.KFB.if_not rfl ?_
    refine wpAny_bind (wpAny_pure ?_)
    exact wpAny_bind (wpAny_mono key (fun r s' z => wpAny_pure ⟨_, rfl, z⟩) fun _ _ e => e)
  · rintro obj s1 ⟨b, rfl, hq⟩
    exact ⟨rfl, PySem.F.args_object_init_2 _ _, object_init_meets PySem.F.called_bool.init.lookup PySem.F.called_bool.made (by decide) X.prog X.w X.A.in1 _ s1 ⟨rfl, rfl, hq⟩⟩
end
end Crx

set_option maxHeartbeats 4000000
/-! CrxG: defs that show lists (repr asks that no repr is under way): promises for callers of whom that is known. -/
namespace Crx
open PySem PySem.Spec PyProof.Rows L2

/-- no repr is under way -/
abbrev Calm (A : Around) : Prop := A.guards = some []
/-- a def's promise to calm callers -/
structure FnG (P : Program) (w : World) (K : PySem.W.Frag) (mg : Str → Option Value) (base : Heap) (k : Nat) (f : Addr) (fd : FuncData) (ps : List Str) (sp : Sp) : Prop where
  len : ∀ vs H Q, sp vs H Q E0 → vs.length = ps.length
  run : ∀ (A : Around) (outer : List Env) (s : Shared) (H : Hp) (args : Args) (us : List Value) (vs : List V) (Q : VK),
    Calm A → Room k A → Env0 P w K mg base A outer s H → BindsTo s fd args (ps.zip us) → Vals vs us → sp vs H Q E0 →
    codeAny (model P w) A (.call (.ref f) args) (CR CX0 outer P w H s Q E0) s
section
variable {P : Program} {w : World} {K : PySem.W.Frag} {mg : Str → Option Value} {base : Heap} {x qual : Str} {params : Arguments} {body : List Stmt} {scope : Scope} {dvs : List V} {kws : List (Str × V)} {f : Addr} {fd : FuncData}
theorem FunG.ok {N ps : List Str} {k : Nat} {sp : Sp} (Fu : FunD K x qual params body scope dvs kws f fd) (S : FnScope N ps scope) (len : ∀ vs H Q, sp vs H Q E0 → vs.length = ps.length)
    (hbody : ∀ (cdv : Value) (A : Around) (outer : List Env) (s : Shared) (H : Hp) (vs : List V) (Q : VK), Calm A → Room k (A.deeper (envOfC qual scope s.heap.objs.size f cdv)) → sp vs H Q E0 →
      ∃ t, PSs (cxOf CX0 P w K mg base N qual scope f cdv A outer s H E0) body t ∧ t { nx := fun _ H' => Q .non H', rt := Q } (start N vs) H) : FnG P w K mg base (k + 1) f fd ps sp := by
  obtain ⟨oc, od, dV, kV, doc, pm, an, cdv, ct, osl, rfl, lk, hcd, _, _⟩ := Fu.ex
  refine ⟨len, ?_⟩
  intro A outer s H args us vs Q calm room e0 bt rv hsp
  have inS : ∀ {b o}, base.get? b = some o → s.heap.get? b = some o := fun {b o} e => (e0.bs b o e).1
  have kin : K.In s.heap := e0.mod.kin.keeps fun _ _ => inS
  refine codeAny_call_function room.depth (kin _ _ lk) rfl S.co S.gen rfl (PySem.W.codeRec_of kin hcd) (bt _ _ _ _ ?_)
  refine wpAny_newFunctionEnv_cells S.kind ?kinds ?run
  case kinds =>
    rintro ⟨n, v⟩ hy
    cases S.par n (List.of_mem_zip hy).1 with
    | inl q => exact .inl q
    | inr q => exact .inr ⟨q, PySem.W.cellsFrom_some _ _ _ (.inl q)⟩
  case run =>
    rintro env rfl s1 ic
    refine ⟨Heap.NoLimit.keeps (e0.mod.nolimit.keeps fun _ _ => inS) ic.toInCall.keep, codeAny_func ?_⟩
    obtain ⟨t, ht, hq⟩ := hbody cdv A outer s H vs Q calm (room.deeper _) hsp
    have I := inv_start (E := E0) (CX := CX0) S room.hd e0 (len _ _ _ hsp) rv ic
    refine wpAny_mono (ht.run [] s1 _ H _ I hq) (fun fl s' z => ?_) fun _ _ z => z
    cases fl with
    | ret u =>
      obtain ⟨v, _, H', J, r, q⟩ := z
      exact ⟨v, H', J.os, J.bare, J.base, J.hok, r, q⟩
    | next =>
      obtain ⟨_, H', J, q⟩ := z
      exact ⟨.non, H', J.os, J.bare, J.base, J.hok, rfl, q⟩
    | brk =>
      obtain ⟨_, _, J, q⟩ := z
      exact absurd q id
    | cont =>
      obtain ⟨_, _, J, q⟩ := z
      exact absurd q id
end

/-! ### calls -/
section
variable (P : Program) (w : World) (K : PySem.W.Frag) (mg : Str → Option Value) (base : Heap)
structure CalG (x : Str) (k : Nat) (ps : List Str) (sp : Sp) : Prop where
  ex : ∃ f fd, FnG P w K mg base k f fd ps sp ∧ mg x = some (.ref f) ∧ PySem.W.keepIn K (.ref f) = true ∧ Binds K fd ps []
end
section
variable {X : Cx} {x : Str} {k : Nat} {ps : List Str} {sp : Sp} {p pos : Pos} {e : Expr} {es : List Expr} {t : TA}
theorem run_G {pins : List (Addr × Obj)} {σ : L2.St} {H : Hp} {s : Shared} {Q : VK} {f : Addr} {fd : FuncData} {us : List Value} {vs : List V} (F : FnG X.prog X.w X.K X.mg X.base k f fd ps sp) (hg : Calm X.A) (hr : Room k X.A) (hb : Binds X.K fd ps [])
    (I : Inv X pins σ H s) (r : Vals vs us) (h : sp vs H Q E0) : wpAny (model X.prog X.w) X.A (call (.ref f) us) (EP X pins σ Q) X.xe s := by
  have hb' := hb s us I.kIn (by
    rw [List.append_nil, ← r.length]
    exact F.len _ _ _ h)
  rw [List.append_nil] at hb'
  refine wpAny_call (codeAny_mono (F.run X.A X.stack s H ⟨us, []⟩ us vs Q hg hr I.env0 hb' r h) ?_)
  intro res s' z
  cases res with
  | error e => exact False.elim z
  | ok fl =>
    cases fl with
    | ret u => exact I.after z
    | _ => exact False.elim z
theorem pe_calG (c : CalG X.prog X.w X.K X.mg X.base x k ps sp) (hr : Room k X.A) (hg : Calm X.A) (ha : PA X (e :: es) t) (hgl : Gl X x := by rfl) (hdb : (x == ("__debug__" : Str)) = false := by decide)
    (he : starEach (e :: es) X.env = (false, eval e X.env) :: starEach es X.env := by rfl) (hpl : (backTo pos (starEach es X.env)).any (·.1) = false := by rfl) : PE X (.Call (.Name x p) (e :: es) [] pos) (tCall sp [] E0 t) := by
  obtain ⟨f, fd, F, hm, hk, hb⟩ := c.ex
  refine ⟨fun pins s σ H Q I h => wpAny_Call_Name_kw (ld_glob I hgl hm ?_ hdb)⟩
  refine PySem.W.callWith_K (h₀ := X.base) I.ok.mod.kin hk (thn (ha.run pos pins s σ H _ I h) fun us s1 z => ?_) he hpl
  obtain ⟨vs, H1, I1, r, q⟩ := z
  rw [List.append_nil] at q
  exact ⟨I1.kIn, run_G F hg hr hb I1 r q⟩
/-! ### repr of data -/
def rReprD (K : PySem.W.Frag) : R1 := fun xs H Q => ∃ a d, xs = [.ref a] ∧ Dp K H (.ref a) d ∧ d.canLay0 = true ∧ d.showable = true ∧ d.depth ≤ 60 ∧ d.shown.length ≤ 16777216 ∧ Q (.str d.shown) H
theorem call_reprD (hg : Calm X.A) (hu : X.A.units + 64 < cLine) : CallR X (.builtin "repr") (rReprD X.K) := by
  intro pins s σ H xs us Q I r h
  obtain ⟨a, d, rfl, hd, hl, hs, hp, hz, q⟩ := h
  obtain rfl := Vals.ref1 r
  obtain ⟨as, rd⟩ := Dp.reads I d _ _ hd rfl
  refine repr_of_reads' rd hs (PyData.noDict_hsm (PyData.hasDict_of_canLay d hl)) hg (by omega) (fun b o e => e) (fun h' u tk hk => ?_) hz
  exact ⟨.str d.shown, H, I.kept (t' := tk) hk, ⟨_, rfl⟩, q⟩
end

/-! ### the head: the law's def is called, no repr is under way -/
theorem calm_caller : Calm callerA := rfl
section
variable {P : Program} {w : World} {K : PySem.W.Frag} {mg mb : Str → Option Value} {k : Nat} {fa a : Addr} {fd : FuncData} {x : Str} {sp : Sp} {s1 : Shared} {vs : List Value} {ns : List Int}
/-- with an abstract heap that knows at most the script -/
theorem law_atG {H : Hp} (kin : K.In s1.heap) (hns : s1.heap.Ns mainGlobals mg) (hb : s1.heap.Ns builtinsNs mb) (hbb : ∀ x : Str, x ≠ "__name__" → mb x = bootBuiltins x) (hlim : s1.heap.NoLimit) (hg : s1.gens = #[])
    (script : s1.heap.get? a = some { cls := .type "list", data := .seq vs.toArray }) (hr : Room k callerA) (F : ∀ base : Heap, K.In base → base.Ns mainGlobals mg → FnG P w K mg base k fa fd [x] sp)
    (hbind : ∀ (s : Shared) (u : Value), BindsTo s fd ⟨[u], []⟩ [(x, u)]) (hO : Only H) (hsp : sp [.ref a] H (fun v _ => v = .bl true) E0) (hok : HOk P w H s1.heap) (onlyA : ∀ b u, H b = some u → b = a ∧ K.lookup a = none) :
    codeAny (model P w) callerA (.call (.ref fa) ⟨[.ref a], []⟩) (fun r s' => r = .ok (.ret (.bool true)) ∧ OldK s1.heap s'.heap ∧ s'.os = s1.os ∧ AllBare s'.gens) s1 := by
  -- what the abstract heap does not know stands in the base
  have inB : ∀ {b : Addr} {o : Obj}, s1.heap.get? b = some o → (∀ u, H b = some u → False) → (hidT s1.heap H).get? b = some o := fun {b o} e n => by
    refine hidT_get e ?_
    cases q : H b with
    | none => rfl
    | some u => exact (n u q).elim
  have dictB : ∀ {b : Addr} {m : Str → Option Value}, s1.heap.Ns b m → (hidT s1.heap H).Ns b m := by
    rintro b m ⟨o, es, ep, e, d, r⟩
    refine ⟨o, es, ep, inB e fun u q => ?_, d, r⟩
    rw [(onlyA b u q).1, script] at e
    cases e
    cases d
  have kinB : K.In (hidT s1.heap H) := fun b o e => inB (kin b o e) fun u q => by
    obtain ⟨rfl, z⟩ := onlyA b u q
    rw [z] at e
    cases e
  obtain ⟨mc, l1, l2⟩ := hlim
  have e0 : Env0 P w K mg (hidT s1.heap H) callerA [] s1 H :=
    { frames := rfl, mod := ⟨kinB, dictB hns, ⟨mb, dictB hb, hbb⟩, mc, dictB l1, l2⟩, bs := fun b o e => of_hidT e, bsz := Nat.le_of_eq (hidT_size _ _), funs := trivial, frf := (fun b z => absurd (show b ∈ ([] : List Addr) from z) (by simp)), hok := hok, bare := .of_eq hg }
  refine codeAny_mono ((F _ kinB (dictB hns)).run callerA [] s1 H ⟨[.ref a], []⟩ [.ref a] [.ref a] _ calm_caller hr e0 (hbind s1 (.ref a)) (.cons rfl .nil) hsp) ?_
  intro res s' z
  cases res with
  | error e => exact False.elim z
  | ok fl =>
    cases fl with
    | ret u =>
      obtain ⟨v, H', os, bare, un, hok', ru, q⟩ := z
      obtain rfl : v = .bl true := q
      obtain rfl : u = Value.bool true := ru
      refine ⟨rfl, OldK.of_keep fun b o e => ?_, os, bare⟩
      cases q : H b with
      | none => exact un.keep b o e q (fun z => absurd (show b ∈ ([] : List Addr) from z) (by simp)) (by simp)
      | some u =>
        obtain z | ⟨ob, xs, z⟩ := hO b
        · rw [q] at z
          cases z
        · have e1 := (hok b _ z).1
          rw [e] at e1
          cases e1
          exact (hok' b _ (un.frzs b o _ z)).1
    | _ => exact False.elim z
theorem law_callG (kin : K.In s1.heap) (hns : s1.heap.Ns mainGlobals mg) (hb : s1.heap.Ns builtinsNs mb) (hbb : ∀ x : Str, x ≠ "__name__" → mb x = bootBuiltins x) (hlim : s1.heap.NoLimit) (hg : s1.gens = #[])
    (script : s1.heap.get? a = some { cls := .type "list", data := .seq vs.toArray }) (hi : IntsAre vs ns) (hl : ns.length ≤ sizeLine) (hr : Room k callerA) (F : ∀ base : Heap, K.In base → base.Ns mainGlobals mg → FnG P w K mg base k fa fd [x] sp)
    (hbind : ∀ (s : Shared) (u : Value), BindsTo s fd ⟨[u], []⟩ [(x, u)]) (hsp : ∀ H : Hp, Only H → SqL K H a (ns.map V.int) → sp [.ref a] H (fun v _ => v = .bl true) E0) :
    codeAny (model P w) callerA (.call (.ref fa) ⟨[.ref a], []⟩) (fun r s' => r = .ok (.ret (.bool true)) ∧ OldK s1.heap s'.heap ∧ s'.os = s1.os ∧ AllBare s'.gens) s1 := by
  have rv := vals_ints hi
  by_cases hk : K.lookup a = none
  · have hit : ∀ b (u : HO), (if b = a then some (HO.frz { cls := .type "list", data := .seq vs.toArray } (.lst (ns.map V.int))) else none) = some u → b = a ∧ u = .frz { cls := .type "list", data := .seq vs.toArray } (.lst (ns.map V.int)) := fun b u z => by
      split at z
      · rename_i h
        exact ⟨h, (Option.some.inj z).symm⟩
      · cases z
    have hO : Only (fun b => if b = a then some (HO.frz { cls := .type "list", data := .seq vs.toArray } (.lst (ns.map V.int))) else none) := fun b => by
      by_cases h : b = a
      · exact .inr ⟨_, _, if_pos h⟩
      · exact .inl (if_neg h)
    refine law_atG kin hns hb hbb hlim hg script hr F hbind hO (hsp _ hO (.inl (.inr ⟨_, if_pos rfl⟩))) (fun b u z => ?_) fun b u z => ⟨(hit b u z).1, hk⟩
    obtain ⟨rfl, rfl⟩ := hit b u z
    exact ⟨script, by rw [List.length_map]; exact hl, vs, _, rv, script⟩
  · obtain ⟨o, ho⟩ := Option.ne_none_iff_exists'.mp hk
    have e := kin a o ho
    rw [script] at e
    cases e
    refine law_atG (H := fun _ => none) kin hns hb hbb hlim hg script hr F hbind (fun _ => .inl rfl) (hsp _ (fun _ => .inl rfl) (.inr ⟨_, vs.toArray, _, ho, rfl, rfl, rfl, ?_, by simpa using rv⟩)) (fun b u z => nomatch z) fun b u z => nomatch z
    rw [List.size_toArray, hi.length]
    exact hl
end
end Crx

set_option maxHeartbeats 4000000
/-! Crx7: list.count of texts; leaves on texts, lists of texts, tuples of flat values. -/
namespace Crx
open PySem PySem.Spec PyProof.Rows L2

def rCountV (K : PySem.W.Frag) : V → List V → Hp → VK → Prop := fun x xs H Q => ∃ (p : Addr) (ys : List Str) (a : Str), x = .ref p ∧ xs = [.str a] ∧ SqL K H p (ys.map V.str) ∧ Q (.int (ys.count a : Nat)) H
theorem flat_strs (ys : List Str) : (ys.map V.str).all flatV = true := by
  rw [List.all_eq_true]
  intro v hv
  obtain ⟨y, _, rfl⟩ := List.mem_map.mp hv
  rfl
theorem eqV_str (a b : Str) : eqV (.str a) (.str b) = decide (a = b) := by
  unfold eqV
  by_cases h : a = b
  · subst h
    simp
  · simp [h]
theorem countP_eqU {a : Str} : ∀ {ys : List Str} {us : List Value}, Vals (ys.map V.str) us → us.countP (eqU (.str a)) = ys.count a
  | [], _, h => by cases h; rfl
  | y :: ys, _, h => by
    rw [List.map_cons] at h
    cases h with
    | cons r t =>
      rw [List.countP_cons, List.count_cons, countP_eqU t, eqU_of r rfl, eqV_str]
      by_cases e : y = a
      · subst e
        simp
      · simp [e]
theorem mt_countV {X : Cx} : MtR X "list.count" (rCountV X.K) := by
  intro pins s σ H x xs v us Q I rx rxs h
  obtain ⟨p, ys, a, rfl, rfl, hs, q⟩ := h
  cases rx
  obtain ⟨u, rfl, ru⟩ := rxs.one
  obtain ⟨its, rv, ⟨⟨cls, dd, data, sl⟩, n, ho, hc, hdn, hd⟩, hlen⟩ := I.list hs
  simp only at hc hd
  subst hc hd
  have meets := SeqAt.list_countAt p its.toArray n dd sl u (eqU (.str a))
  refine call_meets PySem.F.slot_list_count ⟨_, ho, rfl⟩ PySem.F.entry_list_count (PySem.F.args_list_count_2 _ _) meets ⟨ho, fun y hy => ?_, ?_⟩
  · exact mem_eqAt ru rfl rv (flat_strs ys) y (by simpa using hy)
  · have e : its.toArray.toList.countP (eqU (.str a)) = ys.count a := countP_eqU rv
    rw [e]
    exact ⟨.int (ys.count a : Nat), H, I.tok _, ⟨s.toks, rfl⟩, q⟩

/-! ### leaves -/
section
variable {M : Md} {σ : L2.St} {H : Hp} {ta tb tc te : TE} {z : Str} {a : Str} {ys : List Str}
/-- z[i] -/
theorem ev_ixS {i : Int} {c : Nat} (ha : Ev ta σ H (PV (.str z))) (hb : ∀ H1, Same H H1 → Ev tb σ H1 (PI i)) (hz : z.length ≤ 1000000) (hi : atI z.cps.toList i = some c) : Ev (tOp rIxS ta tb) σ H (PV (.str ⟨#[c]⟩)) :=
  ev_vv ha hb fun H2 _ Q q => ⟨z, i, c, rfl, rfl, Nat.le_trans hz (by decide), hi, q _ H2 (Same.refl H2) rfl⟩
/-- one sign in a text -/
theorem ev_sgIn {c : Nat} (ha : Ev ta σ H (PV (.str ⟨#[c]⟩))) (hb : ∀ H1, Same H H1 → Ev tb σ H1 (PV (.str z))) : Ev (tOp rSgIn ta tb) σ H (PB (decide (c ∈ z.cps.toList))) :=
  ev_vv ha hb fun H2 _ Q q => ⟨c, z, rfl, rfl, q _ H2 (Same.refl H2) rfl⟩
theorem ev_slS {lo hi : Option Int} {tl th : TO} (ha : Ev ta σ H (PV (.str z))) (hl : ∀ H1, Same H H1 → EvP tl σ H1 lo) (hh : ∀ H1, Same H H1 → EvP th σ H1 hi) (hz : z.length ≤ 1000000) : Ev (tSl rSlS ta tl th) σ H (PV (.str (cutS z lo hi))) := fun Q q =>
  ha _ fun x H1 s1 p1 => hl H1 s1 _ fun H2 s2 => hh H2 (s1.trans s2) _ fun H3 s3 => ⟨z, p1, Nat.le_trans hz (by decide), q _ H3 (s1.trans (s2.trans s3)) rfl⟩
theorem tyV_lst {K : PySem.W.Frag} {a : Addr} {xs : List V} {H : Hp} (h : SqL K H a xs) : tyV K "list" (.ref a) H := Or.inl ⟨rfl, xs, h⟩
/-- lists of texts -/
theorem ev_countL (ha : Ev ta σ H (PL M (ys.map PyData.str))) (hb : ∀ H1, Same H H1 → Ev tb σ H1 (PV (.str a))) : Ev (tBM M.K "list" (rCountV M.K) ta (tCons tb tNil)) σ H (PI (ys.count a : Nat)) := fun Q q =>
  ha _ fun x H1 s1 p1 => by
    obtain ⟨p, xs, rfl, hs, hd⟩ := p1
    rw [DtA.of_strs hd] at hs
    refine ⟨tyV_lst (SqL.of hs), hb H1 s1 _ fun y H2 s2 p2 => ?_⟩
    exact ⟨p, ys, a, rfl, by rw [show y = V.str a from p2], SqL.of (s2 _ _ hs), q _ H2 (s1.trans s2) rfl⟩
theorem ev_indexL {j : Nat} (ha : Ev ta σ H (PL M (ys.map PyData.str))) (hb : ∀ H1, Same H H1 → Ev tb σ H1 (PV (.str a))) (hj : ys[j]? = some a) (hn : ∀ m b, m < j → ys[m]? = some b → b ≠ a) : Ev (tBM M.K "list" (rIndex M.K) ta (tCons tb tNil)) σ H (PI (j : Nat)) := fun Q q =>
  ha _ fun x H1 s1 p1 => by
    obtain ⟨p, xs, rfl, hs, hd⟩ := p1
    rw [DtA.of_strs hd] at hs
    refine ⟨tyV_lst (SqL.of hs), hb H1 s1 _ fun y H2 s2 p2 => ?_⟩
    refine ⟨p, ys.map V.str, .str a, j, .str a, rfl, by rw [show y = V.str a from p2], SqL.of (s2 _ _ hs), rfl, flat_strs ys, ?_, ?_, fun m z' hm hz => ?_, q _ H2 (s1.trans s2) rfl⟩
    · rw [List.getElem?_map, hj]
      rfl
    · rw [eqV_str]
      simp
    · rw [List.getElem?_map] at hz
      obtain ⟨b, hb, rfl⟩ := Option.map_eq_some_iff.mp hz
      rw [eqV_str]
      exact decide_eq_false (hn m b hm hb)
variable {ds : List PyData} {d : PyData}
theorem ev_ixL {i : Int} (ha : Ev ta σ H (PL M ds)) (hb : ∀ H1, Same H H1 → Ev tb σ H1 (PI i)) (hi : atI ds i = some d) : Ev (tOp (rIxL M.K) ta tb) σ H (PD M d) :=
  ev_op ha (fun _ H1 s1 _ => hb H1 s1) fun x y H1 H2 s1 s2 p1 p2 Q q => by
    obtain ⟨a, xs, rfl, hs, hd⟩ := p1
    obtain rfl : y = .int i := p2
    have hd2 : DtA M H2 xs ds := DtA.kp (Kp.of s2) hd
    unfold atI at hi
    cases hn : ixN ds.length i with
    | none => rw [hn] at hi; cases hi
    | some n =>
      rw [hn] at hi
      obtain ⟨u, hu, hdu⟩ := hd2.get (show ds[n]? = some d from hi)
      exact ⟨a, xs, i, u, rfl, rfl, SqL.of (s2 _ _ hs), by unfold atI; rw [hd2.len, hn]; exact hu, q _ H2 (Same.refl _) hdu⟩
theorem ev_slL {lo hi : Option Int} {tl th : TO} (ha : Ev ta σ H (PL M ds)) (hl : ∀ H1, Same H H1 → EvP tl σ H1 lo) (hh : ∀ H1, Same H H1 → EvP th σ H1 hi) : Ev (tSl (rSlL M.K) ta tl th) σ H (PL M (cutD ds lo hi)) := fun Q q =>
  ha _ fun x H1 s1 p1 => hl H1 s1 _ fun H2 s2 => hh H2 (s1.trans s2) _ fun H3 s3 => by
    obtain ⟨a, xs, rfl, hs, hd⟩ := p1
    have s23 : Same H1 H3 := s2.trans s3
    refine ⟨a, xs, rfl, SqL.of (s23 _ _ hs), fun p hp => ?_⟩
    have sn : Same H3 (upd H3 p (.lst (cutV xs lo hi))) := same_new hp
    refine q _ _ ((s1.trans s23).trans sn) ⟨p, _, rfl, upd_same, ?_⟩
    have hd' := DtA.kp (M := M) (Kp.of (s23.trans sn)) hd
    generalize upd H3 p (.lst (cutV xs lo hi)) = Hn at hd' ⊢
    unfold cutV cutD
    rw [hd.len]
    exact (hd'.drop _).take _
/-- a list that is known, by its place -/
abbrev LstAt (M : Md) (H : Hp) (a : Addr) (ds : List PyData) : Prop := ∃ xs, H a = some (.lst xs) ∧ DtA M H xs ds
theorem LstAt.kp {H' : Hp} {a : Addr} (h : LstAt M H a ds) (k : Kp M H H') (e : ∀ o, H a = some o → H' a = some o) : LstAt M H' a ds := by
  obtain ⟨xs, h1, h2⟩ := h
  exact ⟨xs, e _ h1, DtA.kp k h2⟩
theorem LstAt.s {H' : Hp} {a : Addr} (h : LstAt M H a ds) (s : Same H H') : LstAt M H' a ds := h.kp (Kp.of s) fun o e => s _ _ e
theorem ev_lstAt {i : Nat} {a : Addr} (e : σ[i]? = some (some (.ref a))) (h : LstAt M H a ds) : Ev (tVar i) σ H (PL M ds) := by
  obtain ⟨xs, h1, h2⟩ := h
  exact ev_var e ⟨a, xs, rfl, h1, h2⟩
/-- walking a list that stands while another one (at p) changes -/
theorem evw_list {i : Nat} {a p : Addr} (e : σ[i]? = some (some (.ref a))) (h : LstAt M H a ds) (hp : a ≠ p) : EvW (fun H' H'' => To p H' H'' ∧ Kp M H' H'') (iList M.K (tVar i)) σ H ds.length fun i x H' => ∃ d, ds[i]? = some d ∧ Dt M H' x d := fun R q => by
  obtain ⟨xs, hs, hd⟩ := h
  refine ⟨_, e, a, rfl, ⟨xs, SqL.of hs⟩, q (Itl M.K a) H (fun H' => H' a = some (.lst xs) ∧ DtA M H' xs ds) (Same.refl H) ⟨hs, hd⟩ (fun H' H'' k z => ⟨k.1 _ _ hp z.1, DtA.kp k.2 z.2⟩) (fun i H' z hi => ?_) (fun H' z => ⟨xs, SqL.of z.1, by rw [hd.len]; exact Nat.le_refl _⟩) fun i H' y H'' z hi yl => ?_⟩
  · have hx : i < xs.length := by rw [hd.len]; exact hi
    exact ⟨xs, xs[i], SqL.of z.1, List.getElem?_eq_getElem hx⟩
  · obtain ⟨e1, e2⟩ := yl
    subst e1
    obtain ⟨d, h1, h2⟩ := z.2.get' (e2 xs (SqL.of z.1))
    exact ⟨Same.refl _, d, h1, h2⟩
/-- l.append(x) -/
theorem s_app {D : Ends} {P : V → Hp → Prop} {i : Nat} {p : Addr} {xs : List V} (e : σ[i]? = some (some (.ref p))) (h : H p = some (.lst xs)) (hl : xs.length ≤ 1000000) (ht : Ev te σ H P) (k : ∀ v H', Same H H' → P v H' → D.nx σ (upd H' p (.lst (xs ++ [v])))) :
    tDrop (tBM M.K "list" rAppend (tVar i) (tCons te tNil)) D σ H :=
  ⟨_, e, tyV_lst (SqL.of h), ht _ fun v H' s q => ⟨p, xs, v, rfl, rfl, s _ _ h, Nat.lt_of_le_of_lt hl (by decide), k v H' s q⟩⟩
theorem To.app {p : Addr} {o : HO} : To p H (upd H p o) := fun b u n e => by
  rw [upd_ne n]
  exact e
/-- x in a tuple of texts -/
theorem inV_strs (a : Str) (ys : List Str) : inV (.str a) (ys.map V.str) = decide (a ∈ ys) := by
  unfold inV
  induction ys with
  | nil => rfl
  | cons y ys ih =>
    rw [List.map_cons, List.any_cons, ih, eqV_str]
    by_cases h : y = a
    · subst h
      simp
    · have h' : ¬ a = y := fun e => h e.symm
      simp [h, h']
theorem ev_inS (ha : Ev ta σ H (PV (.str a))) (hb : ∀ H1, Same H H1 → Ev tb σ H1 (PD M (.tuple (ys.map PyData.str)))) : Ev (tOp (rIn M.K false) ta tb) σ H (PB (decide (a ∈ ys))) :=
  ev_op ha (fun _ H1 s1 _ => hb H1 s1) fun x y H1 H2 s1 s2 p1 p2 Q q => by
    obtain rfl : x = .str a := p1
    obtain ⟨b, xs, rfl, hs, hd⟩ := Dt.sq p2
    rw [DtA.of_strs hd] at hs
    refine ⟨b, _, rfl, .inr hs, rfl, flat_strs ys, ?_⟩
    rw [if_neg Bool.false_ne_true, inV_strs]
    exact q _ H2 (Same.refl _) rfl
theorem ev_niS (ha : Ev ta σ H (PV (.str a))) (hb : ∀ H1, Same H H1 → Ev tb σ H1 (PD M (.tuple (ys.map PyData.str)))) : Ev (tOp (rIn M.K true) ta tb) σ H (PB (!decide (a ∈ ys))) :=
  ev_op ha (fun _ H1 s1 _ => hb H1 s1) fun x y H1 H2 s1 s2 p1 p2 Q q => by
    obtain rfl : x = .str a := p1
    obtain ⟨b, xs, rfl, hs, hd⟩ := Dt.sq p2
    rw [DtA.of_strs hd] at hs
    refine ⟨b, _, rfl, .inr hs, rfl, flat_strs ys, ?_⟩
    rw [if_pos rfl, inV_strs]
    exact q _ H2 (Same.refl _) rfl
end
end Crx

set_option maxHeartbeats 4000000
/-! Crx8: tuple(a text), methods called by keywords. -/
namespace Crx
open PySem PySem.Spec PyProof.Rows L2

abbrev rReprI : R1 := fun xs H Q => ∃ i, xs = [.int i] ∧ i.natAbs.log2 < 1920 ∧ Q (.str (toString i)) H
/-- the signs of a text, each a text -/
def sgV (z : Str) : List V := z.cps.toList.map fun c => .str ⟨#[c]⟩
def rTupS : R1 := fun xs H Q => ∃ z, xs = [.str z] ∧ z.length ≤ 1000000 ∧ ∀ p, H p = none → Q (.ref p) (upd H p (.tup (sgV z)))
theorem vals_signs {z : Str} {acc : Array Value} (h : ItemsOf (SignAt z) acc z.cps.size) : Vals (sgV z) acc.toList := by
  have key : ∀ (cs : List Nat) (us : List Value), cs.length = us.length → (∀ (j : Nat) (v : Value), us[j]? = some v → ∃ c t, cs[j]? = some c ∧ v = .str ⟨#[c]⟩ t) → Vals (cs.map fun c => V.str ⟨#[c]⟩) us := by
    intro cs
    induction cs with
    | nil =>
      intro us hl _
      cases us with
      | nil => exact .nil
      | cons u us => cases hl
    | cons c cs ih =>
      intro us hl hus
      cases us with
      | nil => cases hl
      | cons u us =>
        obtain ⟨c', t, e, rfl⟩ := hus 0 u rfl
        cases e
        exact .cons ⟨t, rfl⟩ (ih us (Nat.succ.inj hl) fun j v hj => by simpa using hus (j + 1) v (by simpa using hj))
  refine key _ _ ?_ fun j v hj => ?_
  · rw [Array.length_toList, Array.length_toList]
    exact h.1.symm
  · obtain ⟨c, t, hc, rfl⟩ := h.2 j v (by simpa using hj)
    exact ⟨c, t, by simpa using hc, rfl⟩
theorem cr_tupleS {X : Cx} (hd : X.A.handled = none) : CallR X (.type "tuple") rTupS := by
  intro pins s σ H xs us Q I r h
  obtain ⟨z, rfl, hz, q⟩ := h
  obtain ⟨u, rfl, ru⟩ := r.one
  obtain ⟨t, rfl⟩ := ru
  have hz' : z.cps.size ≤ sizeLine := Nat.le_trans (show z.length ≤ 1000000 from hz) (by decide)
  refine call_tuple_str hd z t (fun h' tk acc hk hacc => ?_) hz'
  have I1 : Inv X pins σ H { s with heap := h', toks := tk } := I.kept (t' := tk) hk
  have hf : H h'.objs.size = none := I1.hok.fresh (Nat.le_refl _)
  refine ⟨.ref h'.objs.size, upd H h'.objs.size (.tup (sgV z)), I1.laid (t' := tk) (fun b u e => Heap.get?_push_of_some _ e) (Nat.le_refl _) ?_, rfl, q _ hf⟩
  have rv := vals_signs hacc
  refine ⟨?_, acc.toList, rv, ⟨_, Heap.get?_push_size _ rfl, rfl, 0, ?_⟩⟩
  · rw [rv.length, Array.length_toList, hacc.1]
    exact hz'
  · simp
theorem ev_tupS {M : Md} {σ : L2.St} {H : Hp} {te : TE} {z : Str} (h : Ev te σ H (PV (.str z))) (hz : z.length ≤ 1000000) : Ev (tCB rTupS (tCons te tNil)) σ H (PD M (.tuple ((z.cps.toList.map fun c => (⟨#[c]⟩ : Str)).map PyData.str))) := fun Q q =>
  h _ fun x H1 s1 p1 => ⟨z, by rw [show x = V.str z from p1], hz, fun p hp => by
    have sn : Same H1 (upd H1 p (.tup (sgV z))) := same_new hp
    refine q _ _ (s1.trans sn) (.tup (.inl (.inl upd_same)) ?_)
    have e : sgV z = (z.cps.toList.map fun c => (⟨#[c]⟩ : Str)).map V.str := by
      unfold sgV
      rw [List.map_map]
      rfl
    rw [e]
    exact .strs _⟩

/-! ### o.m(k = v, ..) -/
section
variable (P : Program) (w : World) (K : PySem.W.Frag) (mg : Str → Option Value) (base : Heap)
structure MCalK (C : Addr) (m : Str) (k : Nat) (ks : List Str) (sp : Sp) (gV : List V → List V → List V) : Prop where
  ex : ∃ (f : Addr) (fd : FuncData) (ps : List Str) (g : List Value → List Value → List Value), FnOk P w K mg base CX0 k f fd ps sp ∧ Meth K C m f ∧ Cls K C ∧ KBn K fd ps 1 ks g gV
end
def tMethK (C : Addr) (m : Str) (n : Nat) (sp : Sp) (gV : List V → List V → List V) (ta : TE) (tk : TA) : TE := fun σ H Q => ta σ H fun x H1 => ∃ a dx fs, x = .ref a ∧ H1 a = some (.ins C dx fs) ∧ fs.lookup m = none ∧
  tk σ H1 fun zs H2 => zs.length = n ∧ sp (gV [x] zs) H2 Q E0
theorem pe_methK0 {X : Cx} {C : Addr} {m : Str} {k nk : Nat} {ks : List Str} {sp : Sp} {gV : List V → List V → List V} {o : Expr} {apos pos : Pos} {kws : List Keyword} {ta : TE} {tk : TA} {pl : Sem Bool}
    (c : MCalK X.prog X.w X.K X.mg X.base C m k ks sp gV) (hr : Room k X.A) (he : PE X o ta) (hkw : PK X kws tk)
    (hall : (backToKw pos (keywordEach kws X.env)).all (·.1.isSome) = true := by rfl) (hks : (backToKw pos (keywordEach kws X.env)).filterMap (·.1) = ks := by rfl)
    (hpl : ((backTo pos (starEach [] X.env)).any (·.1) || (backToKw pos (keywordEach kws X.env)).any (·.1.isNone)) = false := by rfl)
    (ht : eval (.Call (.Attribute o m apos) [] kws pos) X.env = (do
      let owner ← eval o X.env
      standAt apos.atName
      let (fn, first) ← holding [owner] (getMethod owner m pl)
      callWith pos fn first (backTo pos (starEach [] X.env)) (backToKw pos (keywordEach kws X.env))) := by rfl) (hnk : ks.length = nk := by rfl) : PE X (.Call (.Attribute o m apos) [] kws pos) (tMethK C m nk sp gV ta tk) := by
  subst hnk
  obtain ⟨f, fd, ps, g, F, hm, cl, hb⟩ := c.ex
  refine ⟨fun pins s σ H Q I h => ?_⟩
  refine PySem.W.methodCall_KW (pl := pl) (thn (he.run pins s σ H _ I h) fun u s1 z => ?_) ht
  obtain ⟨x, H1, I1, rx, a, dx, fs, rfl, ea, l, q⟩ := z
  obtain rfl : u = Value.ref a := rx
  refine getmeth_ok I1 ea cl hm l ?_
  refine PySem.W.callWith_KW0 (first := [.ref a]) (h₀ := X.base) I.ok.mod.kin hm.kp hall ?_ hpl
  refine thn (hkw.run pos pins s1 σ H1 _ I1 q) fun ws s2 z => ?_
  obtain ⟨zs, H2, I2, rz, l2, q2⟩ := z
  refine ⟨I2.kIn, ?_⟩
  rw [hks]
  exact run_fnN (us := [.ref a]) (vs := [.ref a]) F hr hb pass0 I2 (.cons rfl .nil) rz rfl l2 q2
end Crx

set_option maxHeartbeats 4000000
/-! Crx9: what an expression yields that draws numbers from a list of three (the list at a changes, all else stands). -/
namespace Crx
open PySem PySem.Spec PyProof.Rows L2 RZ

def appG (vs zs : List V) : List V := vs ++ zs
/-- the source of numbers -/
def Src (H : Hp) (a : Addr) : Prop := ∃ i j k : Int, H a = some (.lst [.int i, .int j, .int k])
/-- all else stands, and it is still a source -/
structure Dr (a : Addr) (H H' : Hp) : Prop where
  to : To a H H'
  sr : Src H' a
theorem at_nat' {α : Type} {xs : List α} {i : Int} {x : α} (h0 : 0 ≤ i) (h : xs[i.toNat]? = some x) : atI xs i = some x := by
  have hl := (List.getElem?_eq_some_iff.mp h).1
  unfold atI ixN
  rw [if_pos h0, if_pos (by omega), Option.bind_some]
  exact h
section
variable {M : Md} {H H1 H2 : Hp} {a : Addr}
theorem Src.s (h : Src H a) (s : Same H H1) : Src H1 a := by
  obtain ⟨i, j, k, e⟩ := h
  exact ⟨i, j, k, s _ _ e⟩
theorem Src.dr (h : Src H a) : Dr a H H := ⟨To.refl, h⟩
theorem Dr.of (h : Src H a) (s : Same H H1) : Dr a H H1 := ⟨To.of s, h.s s⟩
theorem Dr.trans (x : Dr a H H1) (y : Dr a H1 H2) : Dr a H H2 := ⟨x.to.trans y.to, y.sr⟩
theorem Dr.then (x : Dr a H H1) (s : Same H1 H2) : Dr a H H2 := x.trans (.of x.sr s)
theorem Src.kp (h : Src H a) (d : Dr a H H1) : Kp M H H1 := by
  obtain ⟨i, j, k, e⟩ := h
  exact d.to.kp e
theorem Src.ne (h : Src H a) {p : Addr} (hp : H p = none) : p ≠ a := fun e => by
  obtain ⟨i, j, k, z⟩ := h
  rw [← e, hp] at z
  cases z
end
def EvT (a : Addr) (te : TE) (σ : L2.St) (H : Hp) (P : V → Hp → Prop) : Prop := ∀ Q : VK, (∀ v H', Dr a H H' → P v H' → Q v H') → te σ H Q
/-- an int that satisfies A -/
abbrev IntP (A : Int → Prop) : V → Hp → Prop := fun v _ => ∃ i : Int, v = .int i ∧ A i
/-- a list of data, at another place -/
abbrev PLN (M : Md) (a : Addr) (ds : List PyData) : V → Hp → Prop := fun v H => ∃ p, v = .ref p ∧ p ≠ a ∧ LstAt M H p ds
section
variable {M : Md} {σ : L2.St} {H : Hp} {a : Addr} {ta tb te tn : TE} {tt tu : TT} {P R : V → Hp → Prop} {A B C : Int → Prop} {n : Nat}
theorem LstAt.dr {H' : Hp} {p : Addr} {ds : List PyData} (h : LstAt M H p ds) (hs : Src H a) (hp : p ≠ a) (d : Dr a H H') : LstAt M H' p ds := h.kp (hs.kp d) fun o e => d.to p o hp e
theorem EvT.of (hs : Src H a) (h : Ev te σ H P) : EvT a te σ H P := fun Q q => h Q fun v H' s p => q v H' (.of hs s) p
theorem EvT.imp (h : EvT a te σ H P) (k : ∀ v H', Dr a H H' → P v H' → R v H') : EvT a te σ H R := fun Q q => h Q fun v H' s p => q v H' s (k v H' s p)
theorem et_int (hs : Src H a) {i : Int} (h : Ev te σ H (PI i)) (hA : A i) : EvT a te σ H (IntP A) := (EvT.of hs h).imp fun v H' _ e => ⟨i, e, hA⟩
theorem et_i0 {g : Int → Int → Int} (ha : EvT a ta σ H (IntP A)) (hb : ∀ H1, Dr a H H1 → EvT a tb σ H1 (IntP B)) (hg : ∀ i j, A i → B j → C (g i j)) : EvT a (tOp (rI0 fun i j => .int (g i j)) ta tb) σ H (IntP C) := fun Q q =>
  ha _ fun x H1 d1 ⟨i, e1, h1⟩ => hb H1 d1 _ fun y H2 d2 ⟨j, e2, h2⟩ => ⟨i, j, e1, e2, q _ H2 (d1.trans d2) ⟨_, rfl, hg i j h1 h2⟩⟩
/-- [constants][a drawn one] -/
theorem et_pick {tr : TA} {ns : List Int} (hs : Src H a) (hl : ∀ Q : List V → Hp → Prop, Q (ns.map V.int) H → tr σ H Q) (hb : ∀ H1, Src H1 a → EvT a tb σ H1 (IntP fun i => 0 ≤ i ∧ i < ns.length)) (hz : ns.length ≤ 1000) :
    EvT a (tOp (rIxL M.K) (tLst tr) tb) σ H (IntP (· ∈ ns)) := fun Q q =>
  hl _ ⟨Nat.le_trans (m := 1000000) (by rw [List.length_map]; omega) (by decide), fun p hp => by
    have sn : Same H (upd H p (.lst (ns.map V.int))) := same_new hp
    have d0 := Dr.of hs sn
    refine hb _ d0.sr _ fun y H2 d2 ⟨i, e, h0, h1⟩ => ?_
    have hg : ns[i.toNat]? = some (ns[i.toNat]'(by omega)) := List.getElem?_eq_getElem _
    refine ⟨p, _, i, .int (ns[i.toNat]'(by omega)), rfl, e, SqL.of (d2.to p _ (hs.ne hp) upd_same), at_nat' h0 ?_, q _ H2 (d0.trans d2) ⟨_, rfl, List.getElem_mem _⟩⟩
    rw [List.getElem?_map, hg]
    rfl⟩
/-! tests of drawn numbers: what they answer is not told -/
def EvTB (a : Addr) (tt : TT) (σ : L2.St) (H : Hp) (B : Bool → Prop) : Prop := ∀ Q : Bool → Hp → Prop, (∀ b H', Dr a H H' → B b → Q b H') → tt σ H Q
theorem etb_of {b : Bool} {B : Bool → Prop} (hs : Src H a) (h : EvB tt σ H b) (hb : B b) : EvTB a tt σ H B := fun Q q => h Q fun H' s => q b H' (.of hs s) hb
theorem etb_any (h : EvT a te σ H (fun v _ => ∃ b, v = .bl b)) : EvTB a (tTest te) σ H fun _ => True := fun Q q => h _ fun v H1 d ⟨b, e⟩ => ⟨b, e, q b H1 d trivial⟩
theorem etb_and (h1 : EvTB a tt σ H fun _ => True) (h2 : ∀ H1, Dr a H H1 → EvTB a tu σ H1 fun _ => True) : EvTB a (tAnd tt tu) σ H fun _ => True := fun Q q =>
  h1 _ fun b H1 d1 _ => by
    cases b with
    | true =>
      rw [if_pos rfl]
      exact h2 H1 d1 _ fun b H2 d2 _ => q b H2 (d1.trans d2) trivial
    | false =>
      rw [if_neg Bool.false_ne_true]
      exact q false H1 d1 trivial
theorem et_eq {i : Int} (ha : EvT a ta σ H (IntP A)) (hb : ∀ H1, Src H1 a → Ev tb σ H1 (PI i)) : EvT a (tOp rEq ta tb) σ H (fun v _ => ∃ b, v = .bl b) := fun Q q =>
  ha _ fun x H1 d1 ⟨j, e1, h1⟩ => hb H1 d1.sr _ fun y H2 s2 e2 => by
    obtain rfl : y = .int i := e2
    subst e1
    exact ⟨rfl, q _ H2 (d1.then s2) ⟨_, rfl⟩⟩
theorem et_gt {i : Int} (ha : EvT a ta σ H (IntP A)) (hb : ∀ H1, Src H1 a → Ev tb σ H1 (PI i)) : EvT a (tOp rGt ta tb) σ H (fun v _ => ∃ b, v = .bl b) := fun Q q =>
  ha _ fun x H1 d1 ⟨j, e1, h1⟩ => hb H1 d1.sr _ fun y H2 s2 e2 => ⟨j, i, e1, e2, q _ H2 (d1.then s2) ⟨_, rfl⟩⟩
/-! tuples of drawn values -/
/-! ### comprehensions over a range -/
theorem et_lc {j : Nat} {vs : List Nat} {Rel : Nat → List PyData → Prop} (hs : Src H a) (hn : EvT a tn σ H (IntP fun i => i = (n : Int))) (hz : n ≤ 100000) (h0 : Rel 0 [])
    (hw : ∀ x, wipe ((wipe σ vs).set j (some x)) vs = wipe σ vs)
    (ht : ∀ i ds H1, i < n → Rel i ds → Dr a H H1 → EvTB a tt ((wipe σ vs).set j (some (.int (i : Nat)))) H1 fun b => b = false → Rel (i + 1) ds)
    (he : ∀ i ds H1, i < n → Rel i ds → Dr a H H1 → EvT a te ((wipe σ vs).set j (some (.int (i : Nat)))) H1 fun v H' => ∃ d, Dt M H' v d ∧ Rel (i + 1) (ds ++ [d])) :
    EvT a (tLc (iRng1 (tCons tn tNil)) (gName j) tt te vs) σ H (fun v H' => ∃ ds, Rel n ds ∧ ds.length ≤ n ∧ PLN M a ds v H') := fun Q q =>
  hn _ fun x H1 d1 ⟨i, ex, ei⟩ => ⟨i, by rw [ex], by omega, by omega, fun D hD => by
    subst ei
    have hDa : D ≠ a := d1.sr.ne hD
    have sn : Same H1 (upd H1 D (.lst [])) := same_new hD
    refine ⟨fun i m H' => m = n - i ∧ i ≤ n ∧ Dr a H1 H' ∧ ∃ ds, Rel i ds ∧ ds.length ≤ i ∧ LstAt M H' D ds, ⟨n, rfl, Nat.zero_le _, .of d1.sr sn, [], h0, Nat.zero_le _, [], upd_same, .nil⟩, ?_⟩
    rintro i m H' ⟨hm, hin, dW, ds, hR, hlen, acc, hacc, hda⟩
    have dD : ∀ {H2 H3 : Hp}, Dr a H1 H2 → H2 D = some (.lst acc) → ∀ y : V, Dr a H1 (upd H2 D (.lst (acc ++ [y]))) := fun {H2 H3} d e y => by
      refine ⟨fun b o hb eb => ?_, ?_⟩
      · have hbD : b ≠ D := fun z => by rw [z, hD] at eb; cases eb
        rw [upd_ne hbD]
        exact d.to b o hb eb
      · obtain ⟨i, j, k, z⟩ := d.sr
        exact ⟨i, j, k, by rw [upd_ne (Ne.symm hDa)]; exact z⟩
    by_cases hlt : i < n
    · refine .inr ⟨by show i < ((n : Int) - 0).toNat; omega, fun H'' => n - (i + 1) = n - (i + 1) ∧ i + 1 ≤ n ∧ Dr a H1 H'' ∧ ∃ ds, Rel (i + 1) ds ∧ ds.length ≤ i + 1 ∧ LstAt M H'' D ds, fun H'' h => ⟨n - (i + 1), by omega, h⟩, fun x H2 hy => ?_⟩
      obtain ⟨e2, e1⟩ := hy
      subst e2
      have e1' : x = .int (i : Nat) := by
        rw [e1]
        congr 1
        omega
      subst e1'
      refine ⟨hw _, ht i ds H2 hlt hR (d1.trans dW) _ fun b H3 d3 hb => ?_⟩
      cases b with
      | false =>
        rw [if_neg Bool.false_ne_true]
        exact ⟨rfl, hlt, dW.trans d3, ds, hb rfl, by omega, LstAt.dr ⟨acc, hacc, hda⟩ dW.sr hDa d3⟩
      | true =>
        rw [if_pos rfl]
        have d13 := dW.trans d3
        refine he i ds H3 hlt hR (d1.trans d13) _ fun y H4 d4 ⟨d, hd, hR'⟩ => ?_
        have d24 := d3.trans d4
        have h4 : H4 D = some (.lst acc) := d24.to D _ hDa hacc
        have l1 := hda.len
        refine ⟨acc, h4, Nat.lt_of_le_of_lt (m := 100000) (by omega) (by decide), rfl, hlt, dD (H3 := H4) (d13.trans d4) h4 y, ds ++ [d], hR', by rw [List.length_append, List.length_singleton]; omega, acc ++ [y], upd_same, ?_⟩
        have kp : Kp M H4 (upd H4 D (.lst (acc ++ [y]))) := Kp.lst h4
        exact (DtA.kp kp (DtA.kp (dW.sr.kp d24) hda)).app (.cons (hd.kp kp) .nil)
    · have hi' : i = n := by omega
      subst hi'
      exact .inl ⟨by show ((i : Int) - 0).toNat ≤ i; omega, q _ _ (d1.trans dW) ⟨ds, hR, hlen, D, rfl, hDa, acc, hacc, hda⟩⟩⟩
end
end Crx

set_option maxHeartbeats 4000000
/-! Rd1: values.py and rings.py: promises and readings. -/
namespace Crx
open PySem PySem.Spec PyProof.Rows L2 RZ
local macro_rules | `(tactic| walk_at "kp") => `(tactic| first | exact Kp.refl | assumption | exact Kp.of (by assumption) | (refine Kp.trans ?_ (Kp.of (by assumption)); walk_at "kp") | (refine Kp.trans ?_ (by assumption); walk_at "kp"))
local macro_rules | `(tactic| walk_at "ev") => `(tactic| first
  | exact ev_c rfl
  | exact ev_var rfl rfl
  | (refine ev_var rfl (Dt.kp ?k (by assumption)); (case k => walk_at "kp"))
  | (refine ev_i0 ?a ?b; (case a => walk_at "ev"); (case b => intro _ _; walk_at "ev"))
  | (refine Ev.dI ?a; (case a => walk_at "ev")))

/-! ### kinds of values -/
/-- the value's built-in type -/
inductive Kd (M : Md) (H : Hp) : V → String → Prop
  | non : Kd M H .non "NoneType"
  | bl (b : Bool) : Kd M H (.bl b) "bool"
  | int (i : Int) : Kd M H (.int i) "int"
  | str (x : Str) : Kd M H (.str x) "str"
  | tup {a : Addr} {xs : List V} (h : SqT M.K H a xs) : Kd M H (.ref a) "tuple"
  | lst {a : Addr} {xs : List V} (h : H a = some (.lst xs)) : Kd M H (.ref a) "list"
  | dT {a : Addr} {xs : List (List Key × V)} (h : H a = some (.dT xs)) : Kd M H (.ref a) "dict"
  | dK {a : Addr} {xs : List (Key × V)} (h : H a = some (.dK xs)) : Kd M H (.ref a) "dict"
theorem Kd.tyx {M : Md} {H : Hp} {x : V} {k : String} (h : Kd M H x k) : TyX M.K H x (.type k) := by
  cases h with
  | non => exact .base .non
  | bl b => exact .base (.bl b)
  | int i => exact .base (.int i)
  | str x => exact .base (.str x)
  | tup h =>
    rcases h with (h | ⟨o, h⟩) | ⟨o, its, n, h1, h2, _⟩
    · exact .base (.tup h)
    · exact .fTuple h
    · exact .kTuple h1 h2
  | lst h => exact .base (.lst h)
  | dT h => exact .base (.dT h)
  | dK h => exact .base (.dK h)
theorem Kd.s {M : Md} {H H' : Hp} {x : V} {k : String} (s : Same H H') (h : Kd M H x k) : Kd M H' x k := by
  cases h with
  | non => exact .non
  | bl b => exact .bl b
  | int i => exact .int i
  | str x => exact .str x
  | tup h => exact .tup (same_t s h)
  | lst h => exact .lst (s _ _ h)
  | dT h => exact .dT (s _ _ h)
  | dK h => exact .dK (s _ _ h)
/-- a datum's kind -/
def kdD : PyData → String
  | .none => "NoneType" | .bool _ => "bool" | .int _ => "int" | .str _ => "str" | .list _ => "list" | .tuple _ => "tuple" | .dict _ => "dict"
theorem Dt.kd {M : Md} {H : Hp} {x : V} {d : PyData} (h : Dt M H x d) : Kd M H x (kdD d) := by
  cases h with
  | non => exact .non
  | bl b => exact .bl b
  | int i => exact .int i
  | str x => exact .str x
  | tup h _ => exact .tup h
section
variable {M : Md} {σ : L2.St} {H : Hp} {ta tb te : TE} {P : V → Hp → Prop} {x : V} {k c : String} {b : Bool}
theorem ev_isi (h : Ev te σ H fun y H' => Kd M H' y k) (hk : kitB k c = some b) : Ev (tCB (rIsi M.K) (tCons te (tCons (tC (.ty c)) tNil))) σ H (PB b) := fun Q q =>
  h _ fun y H1 s1 p1 => ⟨y, .ty c, .type k, .type c, b, rfl, .ty c, p1.tyx, kit_ty hk, q _ _ s1 rfl⟩
theorem ev_fld {f : Str} {R : V → Hp → Prop} (ha : Ev te σ H P) (hp : ∀ x H1, Same H H1 → P x H1 → ∃ a C dx fs v, x = .ref a ∧ H1 a = some (.ins C dx fs) ∧ Cls M.K C ∧ NoAttr M.K C f ∧ fs.lookup f = some v ∧ R v H1) : Ev (tFld M.K te f) σ H R := fun Q q =>
  ha _ fun x H1 s1 p1 => by
    obtain ⟨a, C, dx, fs, v, e, h1, h2, h3, h4, r⟩ := hp x H1 s1 p1
    exact ⟨a, C, dx, fs, v, e, h1, h2, h3, h4, q _ _ s1 r⟩
end

/-! ### rings -/
structure RingD where
  n : Nat
  locks : List Int
  walls : List Int
  prices : List Int
/-- ascending within lo .. hi -/
def Asc (ns : List Int) (lo hi : Int) : Prop := (∀ i ∈ ns, lo ≤ i ∧ i ≤ hi) ∧ ns.Pairwise (· < ·)
structure RingD.Ok (R : RingD) : Prop where
  n2 : 2 ≤ R.n
  n12 : R.n ≤ 12
  lk : Asc R.locks 0 ((R.n : Int) - 1)
  wl : Asc R.walls 0 ((R.n : Int) - 1)
  pl : R.prices.length = R.n
  pr : ∀ p ∈ R.prices, 1 ≤ p ∧ p ≤ 999
abbrev dI (ns : List Int) : PyData := .tuple (ns.map PyData.int)
def ringFs (n : Nat) (l w p : V) : List (Str × V) := [("size", .int n), ("locks", l), ("walls", w), ("prices", p)]
/-- the value is the ring -/
def IsRing (M : Md) (H : Hp) (v : V) (R : RingD) : Prop := ∃ a dx l w p, v = .ref a ∧ H a = some (.ins M.ring dx (ringFs R.n l w p)) ∧ Dt M H l (dI R.locks) ∧ Dt M H w (dI R.walls) ∧ Dt M H p (dI R.prices)
/-- the class as the top has made it -/
structure RCls (M : Md) : Prop where
  cl : Cls M.K M.ring
  nS : NoAttr M.K M.ring "size"
  nL : NoAttr M.K M.ring "locks"
  nW : NoAttr M.K M.ring "walls"
  nP : NoAttr M.K M.ring "prices"
theorem str_sl : ¬ (("size" : Str) = "locks") := by decide +kernel
theorem str_sw : ¬ (("size" : Str) = "walls") := by decide +kernel
theorem str_sp : ¬ (("size" : Str) = "prices") := by decide +kernel
theorem str_lw : ¬ (("locks" : Str) = "walls") := by decide +kernel
theorem str_lp : ¬ (("locks" : Str) = "prices") := by decide +kernel
theorem str_wp : ¬ (("walls" : Str) = "prices") := by decide +kernel
theorem ringFs_size (n : Nat) (l w p : V) : (ringFs n l w p).lookup ("size" : Str) = some (.int n) := by
  unfold ringFs
  rw [List.lookup_cons, show (("size" : Str) == "size") = true from by decide +kernel]
theorem ringFs_locks (n : Nat) (l w p : V) : (ringFs n l w p).lookup ("locks" : Str) = some l := by
  unfold ringFs
  rw [List.lookup_cons, show (("locks" : Str) == "size") = false from by decide +kernel, List.lookup_cons, show (("locks" : Str) == "locks") = true from by decide +kernel]
theorem ringFs_walls (n : Nat) (l w p : V) : (ringFs n l w p).lookup ("walls" : Str) = some w := by
  unfold ringFs
  rw [List.lookup_cons, show (("walls" : Str) == "size") = false from by decide +kernel, List.lookup_cons, show (("walls" : Str) == "locks") = false from by decide +kernel, List.lookup_cons, show (("walls" : Str) == "walls") = true from by decide +kernel]
theorem ringFs_prices (n : Nat) (l w p : V) : (ringFs n l w p).lookup ("prices" : Str) = some p := by
  unfold ringFs
  rw [List.lookup_cons, show (("prices" : Str) == "size") = false from by decide +kernel, List.lookup_cons, show (("prices" : Str) == "locks") = false from by decide +kernel, List.lookup_cons, show (("prices" : Str) == "walls") = false from by decide +kernel, List.lookup_cons, show (("prices" : Str) == "prices") = true from by decide +kernel]
theorem ringFs_no (n : Nat) (l w p : V) {m : Str} (h1 : (m == "size") = false) (h2 : (m == "locks") = false) (h3 : (m == "walls") = false) (h4 : (m == "prices") = false) : (ringFs n l w p).lookup m = none := by
  unfold ringFs
  rw [List.lookup_cons, h1, List.lookup_cons, h2, List.lookup_cons, h3, List.lookup_cons, h4]
  rfl
section
variable {M : Md} {σ : L2.St} {H H' : Hp} {te : TE} {R : RingD} {v : V}
theorem IsRing.kp (k : Kp M H H') (h : IsRing M H v R) : IsRing M H' v R := by
  obtain ⟨a, dx, l, w, p, e, h1, h2, h3, h4⟩ := h
  exact ⟨a, dx, l, w, p, e, k.i _ _ _ h1, h2.kp k, h3.kp k, h4.kp k⟩
abbrev PR (M : Md) (R : RingD) : V → Hp → Prop := fun v H => IsRing M H v R
theorem ev_size (C : RCls M) (h : Ev te σ H (PR M R)) : Ev (tFld M.K te "size") σ H (PI R.n) := ev_fld h fun x H1 _ ⟨a, dx, l, w, p, e, h1, h2, h3, h4⟩ =>
  ⟨a, M.ring, dx, _, _, e, h1, C.cl, C.nS, ringFs_size .., rfl⟩
theorem ev_locks (C : RCls M) (h : Ev te σ H (PR M R)) : Ev (tFld M.K te "locks") σ H (PD M (dI R.locks)) := ev_fld h fun x H1 _ ⟨a, dx, l, w, p, e, h1, h2, h3, h4⟩ =>
  ⟨a, M.ring, dx, _, _, e, h1, C.cl, C.nL, ringFs_locks .., h2⟩
theorem ev_walls (C : RCls M) (h : Ev te σ H (PR M R)) : Ev (tFld M.K te "walls") σ H (PD M (dI R.walls)) := ev_fld h fun x H1 _ ⟨a, dx, l, w, p, e, h1, h2, h3, h4⟩ =>
  ⟨a, M.ring, dx, _, _, e, h1, C.cl, C.nW, ringFs_walls .., h3⟩
theorem ev_prices (C : RCls M) (h : Ev te σ H (PR M R)) : Ev (tFld M.K te "prices") σ H (PD M (dI R.prices)) := ev_fld h fun x H1 _ ⟨a, dx, l, w, p, e, h1, h2, h3, h4⟩ =>
  ⟨a, M.ring, dx, _, _, e, h1, C.cl, C.nP, ringFs_prices .., h4⟩
/-- x in a tuple of ints -/
theorem eqV_int (i j : Int) : eqV (.int i) (.int j) = decide (i = j) := by
  unfold eqV
  by_cases h : i = j
  · subst h; simp
  · simp [h]
theorem inV_ints (i : Int) (ns : List Int) : inV (.int i) (ns.map V.int) = decide (i ∈ ns) := by
  unfold inV
  induction ns with
  | nil => rfl
  | cons n ns ih =>
    rw [List.map_cons, List.any_cons, ih, eqV_int]
    by_cases h : n = i
    · subst h; simp
    · have h' : ¬ i = n := fun e => h e.symm
      simp [h, h']
theorem flat_ints (ns : List Int) : (ns.map V.int).all flatV = true := by
  rw [List.all_eq_true]
  intro x hx
  obtain ⟨i, _, rfl⟩ := List.mem_map.mp hx
  rfl
theorem ev_inI {ta tb : TE} {i : Int} {ns : List Int} (ha : Ev ta σ H (PI i)) (hb : ∀ H1, Same H H1 → Ev tb σ H1 (PD M (dI ns))) : Ev (tOp (rIn M.K false) ta tb) σ H (PB (decide (i ∈ ns))) :=
  ev_op ha (fun _ H1 s1 _ => hb H1 s1) fun x y H1 H2 s1 s2 p1 p2 Q q => by
    obtain ⟨a, rfl, hs⟩ := Dt.sqI p2
    obtain rfl : x = .int i := p1
    exact ⟨a, _, rfl, Or.inr hs, rfl, flat_ints ns, q _ H2 (Same.refl _) (by rw [inV_ints]; rfl)⟩
theorem ev_niI {ta tb : TE} {i : Int} {ns : List Int} (ha : Ev ta σ H (PI i)) (hb : ∀ H1, Same H H1 → Ev tb σ H1 (PD M (dI ns))) : Ev (tOp (rIn M.K true) ta tb) σ H (PB (!decide (i ∈ ns))) :=
  ev_op ha (fun _ H1 s1 _ => hb H1 s1) fun x y H1 H2 s1 s2 p1 p2 Q q => by
    obtain ⟨a, rfl, hs⟩ := Dt.sqI p2
    obtain rfl : x = .int i := p1
    exact ⟨a, _, rfl, Or.inr hs, rfl, flat_ints ns, q _ H2 (Same.refl _) (by rw [inV_ints]; rfl)⟩
end

theorem ints_at {ns : List Int} {j : Nat} {d : PyData} (h : (ns.map PyData.int)[j]? = some d) : ∃ i, ns[j]? = some i ∧ d = .int i := by
  rw [List.getElem?_map] at h
  cases e : ns[j]? with
  | none => rw [e] at h; cases h
  | some i => rw [e] at h; exact ⟨i, rfl, (Option.some.inj h).symm⟩
section
variable {M : Md} {σ : L2.St} {H : Hp} {ta tb ts : TE} {ns ms : List Int}
theorem evi_tupI (h : Ev ts σ H (PD M (dI ns))) : EvI M (iTup M.K ts) σ H ns.length fun i x _ => ∃ k, ns[i]? = some k ∧ x = .int k := fun R q => by
  refine evi_tup h R fun J H1 Z s z zk go st yl => ?_
  rw [List.length_map] at go st yl
  refine q J H1 Z s z zk go st fun i H' x H'' z' hi y => ?_
  obtain ⟨s2, d, h1, h2⟩ := yl i H' x H'' z' hi y
  obtain ⟨k, e1, rfl⟩ := ints_at h1
  cases h2
  exact ⟨s2, k, e1, rfl⟩
theorem evi_zipI (ha : Ev ta σ H (PD M (dI ns))) (hb : ∀ H1, Same H H1 → Ev tb σ H1 (PD M (dI ms))) :
    EvI M (iZipA M.K (tCons ta (tCons tb tNil))) σ H (min ns.length ms.length) fun i x H' => ∃ k l, ns[i]? = some k ∧ ms[i]? = some l ∧ ∃ a, x = .ref a ∧ SqT M.K H' a [.int k, .int l] := fun R q => by
  refine evi_zip ha hb R fun J H1 Z s z zk go st yl => ?_
  rw [List.length_map, List.length_map] at go st yl
  refine q J H1 Z s z zk go st fun i H' x H'' z' hi y => ?_
  obtain ⟨s2, d, e, h1, h2, h3⟩ := yl i H' x H'' z' hi y
  obtain ⟨k, e1, rfl⟩ := ints_at h1
  obtain ⟨l, e2, rfl⟩ := ints_at h2
  obtain ⟨a, xs, e3, hs, hd⟩ := Dt.sq h3
  have : xs = [.int k, .int l] := DtA.of_ints (ns := [k, l]) hd
  rw [this] at hs
  exact ⟨s2, k, l, e1, e2, a, e3, hs⟩
end

/-! ### values.py -/
def isInt : V → Int → Int → Bool
  | .int i, lo, hi => decide (lo ≤ i) && decide (i ≤ hi)
  | _, _, _ => false
def sp_is_integer (M : Md) : Sp := fun vs H Q _ => ∃ x lo hi k, vs = [x, .int lo, .int hi] ∧ Kd M H x k ∧ Pr (PB (isInt x lo hi)) H Q
abbrev N_is_integer : List Str := ["value", "low", "high"]
def t_is_integer (M : Md) : TS := (tRet (tAndV (tCB (rIsi M.K) (tCons (tVar 0) (tCons (tC (.ty "int")) tNil))) (tAndV (tNotV (tCB (rIsi M.K) (tCons (tVar 0) (tCons (tC (.ty "bool")) tNil)))) (tChain rLe rLe (tVar 1) (tVar 0) (tVar 2)))))
theorem rd_is_integer {M : Md} {vs : List V} {H : Hp} {Q : VK} {E : XK} (h : sp_is_integer M vs H Q E) : t_is_integer M { nx := fun _ H' => Q .non H', rt := Q } (start N_is_integer vs) H := by
  obtain ⟨x, lo, hi, k, rfl, hk, q⟩ := h
  have kd : ∀ H1, Same H H1 → Ev (tVar 0) (start N_is_integer [x, .int lo, .int hi]) H1 fun y H' => Kd M H' y k := fun H1 s => ev_var rfl (hk.s s)
  have go : ∀ b, (∃ b1 b2, kitB k "int" = some b1 ∧ kitB k "bool" = some b2 ∧ (b1 && !b2) = b) → (b = true → ∃ i, x = .int i) → isInt x lo hi = (b && isInt x lo hi) → t_is_integer M { nx := fun _ H' => Q .non H', rt := Q } (start N_is_integer [x, .int lo, .int hi]) H := by
    intro b ⟨b1, b2, e1, e2, e3⟩ hx hb
    refine s_ret (P := PB (isInt x lo hi)) ?_ q
    rw [hb, ← e3, Bool.and_assoc]
    refine ev_andV (ev_isi (kd H (Same.refl H)) e1) fun h1 H1 s1 => ?_
    refine ev_andV (ev_notV (ev_isi (kd H1 s1) e2)) fun h2 H2 s2 => ?_
    obtain ⟨i, rfl⟩ := hx (by rw [← e3, h1, h2]; rfl)
    refine ev_chain (p1 := fun i j => decide (i ≤ j)) (p2 := fun i j => decide (i ≤ j)) ?_ ?_ ?_
    · exact ev_var rfl rfl
    · exact fun _ _ => ev_var rfl rfl
    · exact fun _ _ => ev_var rfl rfl
  cases hk with
  | int i => exact go true ⟨true, false, by decide +kernel, by decide +kernel, rfl⟩ (fun _ => ⟨i, rfl⟩) (Bool.true_and _).symm
  | bl b => exact go false ⟨true, true, by decide +kernel, by decide +kernel, rfl⟩ (fun z => nomatch z) rfl
  | non => exact go false ⟨false, false, by decide +kernel, by decide +kernel, rfl⟩ (fun z => nomatch z) rfl
  | str x => exact go false ⟨false, false, by decide +kernel, by decide +kernel, rfl⟩ (fun z => nomatch z) rfl
  | tup _ => exact go false ⟨false, false, by decide +kernel, by decide +kernel, rfl⟩ (fun z => nomatch z) rfl
  | lst _ => exact go false ⟨false, false, by decide +kernel, by decide +kernel, rfl⟩ (fun z => nomatch z) rfl
  | dT _ => exact go false ⟨false, false, by decide +kernel, by decide +kernel, rfl⟩ (fun z => nomatch z) rfl
  | dK _ => exact go false ⟨false, false, by decide +kernel, by decide +kernel, rfl⟩ (fun z => nomatch z) rfl
theorem ev_isint {M : Md} {σ : L2.St} {H : Hp} {ta tb tc : TE} {x : V} {k : String} {lo hi : Int} (ha : Ev ta σ H fun y H' => y = x ∧ Kd M H' y k) (hb : ∀ H1, Same H H1 → Ev tb σ H1 (PI lo)) (hc : ∀ H1, Same H H1 → Ev tc σ H1 (PI hi)) :
    Ev (tCall (sp_is_integer M) [] E0 (tCons ta (tCons tb (tCons tc tNil)))) σ H (PB (isInt x lo hi)) := fun Q q =>
  ha _ fun y H1 s1 p1 => hb H1 s1 _ fun z H2 s2 p2 => hc H2 (s1.trans s2) _ fun u H3 s3 p3 => by
    obtain ⟨rfl, hk⟩ := p1
    exact ⟨y, lo, hi, k, by rw [show z = V.int lo from p2, show u = V.int hi from p3]; rfl, hk.s (s2.trans s3), (show Pr _ H Q from q).s (s1.trans (s2.trans s3))⟩
theorem isInt_int (i lo hi : Int) : isInt (.int i) lo hi = (decide (lo ≤ i) && decide (i ≤ hi)) := rfl

def sp_is_ascending (M : Md) : Sp := fun vs H Q _ => ∃ x ns lo hi, vs = [x, .int lo, .int hi] ∧ Dt M H x (dI ns) ∧ Asc ns lo hi ∧ ns.length ≤ 1000 ∧ Pr (PB true) H Q
abbrev N_is_ascending : List Str := ["value", "low", "high", "item", "one", "other"]
def t_is_ascending (M : Md) : TS := (tSeq (tIfS (tOr (tNot (tB (tCB (rIsi M.K) (tCons (tVar 0) (tCons (tC (.ty "tuple")) tNil))))) (tNot (tB (tCB (rAll M.K) (tCons (tLc (iTup M.K (tVar 0)) (gName 3) tYes (tCall (sp_is_integer M) [] E0 (tCons (tVar 3) (tCons (tVar 1) (tCons (tVar 2) tNil)))) [3]) tNil))))) (tRet (tC (.bl false))) tNext)
  (tRet (tCB (rAll M.K) (tCons (tLc (iZipA M.K (tCons (tVar 0) (tCons (tSl (rSlA M.K) (tVar 0) (tPart (tC (.int 1))) tNoPart) tNil))) (gTup M.K 2 (gCons (gName 4) (gCons (gName 5) gNil))) tYes (tOp rLt (tVar 4) (tVar 5)) [4, 5]) tNil))))
theorem all_true (n : Nat) : (((List.range n).map fun _ => true).all id) = true := by
  rw [List.all_eq_true]
  intro b hb
  obtain ⟨_, _, rfl⟩ := List.mem_map.mp hb
  rfl
theorem rd_is_ascending {M : Md} {vs : List V} {H : Hp} {Q : VK} {E : XK} (h : sp_is_ascending M vs H Q E) : t_is_ascending M { nx := fun _ H' => Q .non H', rt := Q } (start N_is_ascending vs) H := by
  obtain ⟨x, ns, lo, hi, rfl, hx, ⟨hr, hp⟩, hl, q⟩ := h
  refine q_no ((eb_or (b := false) (c := false) ((eb_not (eb_val (ev_isi (k := "tuple") (b := true) (ev_var rfl (Dt.kd hx)) (by decide +kernel)))).to rfl) fun _ H1 s1 => (eb_not (eb_val (b := true) ?_)).to rfl).to rfl) fun H1 s1 => ?_
  · have e := ev_all (M := M) (σ := start N_is_ascending [x, .int lo, .int hi]) (H := H1) (bs := (List.range ns.length).map fun _ => true) (te := tLc (iTup M.K (tVar 0)) (gName 3) tYes (tCall (sp_is_integer M) [] E0 (tCons (tVar 3) (tCons (tVar 1) (tCons (tVar 2) tNil)))) [3]) ?_
    · rw [all_true] at e
      exact e
    · have hx1 : Dt M H1 x (dI ns) := hx.kp (Kp.of s1)
      rw [List.map_map]
      refine ev_lc1 (n := ns.length) (e := fun _ => PyData.bool true) (evi_tupI (ev_var rfl hx1)).toL ?_ (fun _ => rfl) (by omega) (fun j y Ha Hb s h => h)
      rintro j y H2 hj s2 ⟨i, hji, rfl⟩
      have hm := hr i (List.mem_of_getElem? hji)
      refine Ev.dB ?_
      have e := ev_isint (M := M) (σ := (wipe (start N_is_ascending [x, .int lo, .int hi]) [3]).set 3 (some (.int i))) (H := H2) (ta := tVar 3) (tb := tVar 1) (tc := tVar 2) (x := .int i) (k := "int") (lo := lo) (hi := hi) (ev_var rfl ⟨rfl, .int i⟩) (fun _ _ => ev_var rfl rfl) (fun _ _ => ev_var rfl rfl)
      rw [isInt_int, decide_eq_true hm.1, decide_eq_true hm.2] at e
      exact e
  · refine s_ret (P := PB true) ?_ (q.s s1)
    have hx1 : Dt M H1 x (dI ns) := hx.kp (Kp.of s1)
    have hcut : cutD (ns.map PyData.int) (some 1) none = (ns.drop 1).map PyData.int := by
      unfold cutD
      rw [show (1 : Int) = ((1 : Nat) : Int) from rfl, HT.sIx_nat, HT.sIx_none, List.map_drop]
      rw [List.take_of_length_le]
      · cases ns with
        | nil => rfl
        | cons a r => rw [show min 1 ((a :: r).map PyData.int).length = 1 from by simp]
      · rw [List.length_drop]
        omega
    have e := ev_all (M := M) (σ := start N_is_ascending [x, .int lo, .int hi]) (H := H1) (bs := (List.range (min ns.length (ns.drop 1).length)).map fun _ => true) (te := tLc (iZipA M.K (tCons (tVar 0) (tCons (tSl (rSlA M.K) (tVar 0) (tPart (tC (.int 1))) tNoPart) tNil))) (gTup M.K 2 (gCons (gName 4) (gCons (gName 5) gNil))) tYes (tOp rLt (tVar 4) (tVar 5)) [4, 5]) ?_
    · rw [all_true] at e
      exact e
    · rw [List.map_map]
      have hz := evi_zipI (M := M) (σ := start N_is_ascending [x, .int lo, .int hi]) (H := H1) (ta := tVar 0) (tb := tSl (rSlA M.K) (tVar 0) (tPart (tC (.int 1))) tNoPart) (ns := ns) (ms := ns.drop 1) (ev_var rfl hx1) (fun H2 s2 => by
        show Ev _ _ _ (PD M (.tuple ((ns.drop 1).map PyData.int)))
        rw [← hcut]
        exact ev_slice (ev_var rfl (hx1.kp (Kp.of s2))) (fun _ _ => ep_some (ev_c rfl)) (fun _ _ => ep_none))
      have hlc := ev_lc (M := M) (keep := fun _ => true) (g := gTup M.K 2 (gCons (gName 4) (gCons (gName 5) gNil))) (tt := tYes) (te := tOp rLt (tVar 4) (tVar 5)) (vs := [4, 5]) (e := fun _ => PyData.bool true) hz.toL ?_ (by omega)
      · rw [List.filter_eq_self.mpr (fun _ _ => rfl)] at hlc
        exact hlc
      · intro j y H2 hj s2 ⟨i, i', hji, hji', a, e3, hs⟩ R k
        subst e3
        refine ⟨a, _, rfl, hs, rfl, _, _, rfl, _, _, rfl, rfl, ?_⟩
        refine k _ H2 (Same.refl _) rfl eb_yes fun _ H3 s3 => Ev.dB ?_
        have lt : i < i' := by
          rw [List.getElem?_drop] at hji'
          obtain ⟨w1, e1⟩ := List.getElem?_eq_some_iff.mp hji
          obtain ⟨w2, e2⟩ := List.getElem?_eq_some_iff.mp hji'
          have := List.pairwise_iff_getElem.mp hp j (1 + j) w1 w2 (by omega)
          rw [e1, e2] at this
          exact this
        have e := ev_i0 (σ := ((wipe (start N_is_ascending [x, .int lo, .int hi]) [4, 5]).set 4 (some (.int i))).set 5 (some (.int i'))) (H := H3) (g := fun i j => .bl (decide (i < j))) (ta := tVar 4) (tb := tVar 5) (i := i) (j := i') (ev_var rfl rfl) (fun _ _ => ev_var rfl rfl)
        rw [decide_eq_true lt] at e
        exact e
end Crx

set_option maxHeartbeats 4000000
/-! Rd2: rings.py, effects.py: promises and readings. -/
namespace Crx
open PySem PySem.Spec PyProof.Rows L2 RZ

/-! ### the ring's prices -/
def pricesOf (n : Nat) (ps : List Int) : List Int := if ps = [] then List.replicate n 1 else ps
def PricesOk (n : Nat) (ps : List Int) : Prop := ps = [] ∨ (ps.length = n ∧ ∀ p ∈ ps, 1 ≤ p ∧ p ≤ 999)
def sp_checked_prices (M : Md) : Sp := fun vs H Q _ => ∃ x ps n, vs = [.int (n : Nat), x] ∧ Dt M H x (dI ps) ∧ 2 ≤ n ∧ n ≤ 12 ∧ PricesOk n ps ∧ Pr (PD M (dI (pricesOf n ps))) H Q
abbrev N_checked_prices : List Str := ["size", "prices", "index", "item"]
def t_checked_prices (M : Md) : TS := (tSeq (tIfS (tAnd (tB (tCB (rIsi M.K) (tCons (tVar 1) (tCons (tC (.ty "tuple")) tNil)))) (tTest (tOp (rEqD M.K) (tVar 1) (tTup tNil)))) (tRet (tOp (rRepT M.K) (tTup (tCons (tC (.int 1)) tNil)) (tVar 0))) tNext)
  (tSeq (tIfS (tOr (tNot (tB (tCB (rIsi M.K) (tCons (tVar 1) (tCons (tC (.ty "tuple")) tNil))))) (tTest (tOp rNe (tCB (rLenQ M.K) (tCons (tVar 1) tNil)) (tVar 0)))) tNever tNext)
  (tSeq (tFor (iEnumT M.K (tCons (tVar 1) tNil)) (gTup M.K 2 (gCons (gName 2) (gCons (gName 3) gNil))) (tIfS (tNot (tB (tCall (sp_is_integer M) [] E0 (tCons (tVar 3) (tCons (tC (.int 1)) (tCons (tC (.int 999)) tNil)))))) tNever tNext))
  (tRet (tVar 1)))))
theorem map_rep (n : Nat) : (List.replicate n (1 : Int)).map PyData.int = List.replicate n (PyData.int 1) := List.map_replicate
theorem rd_checked_prices {M : Md} {vs : List V} {H : Hp} {Q : VK} {E : XK} (h : sp_checked_prices M vs H Q E) : t_checked_prices M { nx := fun _ H' => Q .non H', rt := Q } (start N_checked_prices vs) H := by
  obtain ⟨x, ps, n, rfl, hx, n2, n12, hp, q⟩ := h
  have kd : ∀ H1, Same H H1 → Ev (tVar 1) (start N_checked_prices [.int (n : Nat), x]) H1 fun y H' => Kd M H' y "tuple" := fun H1 s => ev_var rfl ((Dt.kd hx).s s)
  have kx : ∀ H1, Same H H1 → Ev (tVar 1) (start N_checked_prices [.int (n : Nat), x]) H1 (PD M (dI ps)) := fun H1 s => ev_var rfl (hx.kp (Kp.of s))
  refine q_if (b := decide (ps = [])) ((eb_and (b := true) (c := decide (ps = [])) (eb_val (ev_isi (kd H (Same.refl H)) (by decide +kernel))) fun _ H1 s1 => eb_test ?_).to (Bool.true_and _)) (fun e H1 s1 => ?_) (fun e H1 s1 => ?_)
  · have e := ev_eqD (kx H1 s1).qD (fun H2 s2 => (ev_tup (M := M) (ea0 (σ := start N_checked_prices [.int (n : Nat), x]) (H := H2)) (by decide)).qD) (Flt.ints (n := 0) ps).shaped (Flt.ints (n := 0) []).shaped
    have e2 : PyData.eqv (dI ps) (.tuple []) = decide (ps = []) := eqv_dI ps []
    rw [e2] at e
    exact e
  · have e' : ps = [] := of_decide_eq_true e
    refine s_ret (P := PD M (dI (pricesOf n ps))) ?_ (q.s s1)
    unfold pricesOf
    rw [if_pos e', dI, map_rep]
    exact ev_rep1 (ev_tup (ea1 (ev_c (.int 1)) fun _ _ => ea0) (by decide)) (fun _ _ => ev_var rfl rfl) n2 (by omega)
  · have hne : ¬ ps = [] := of_decide_eq_false e
    have hq : ps.length = n ∧ ∀ p ∈ ps, 1 ≤ p ∧ p ≤ 999 := hp.resolve_left hne
    refine q_no ((eb_or (b := false) (c := false) ((eb_not (eb_val (ev_isi (b := true) (kd H1 s1) (by decide +kernel)))).to rfl) fun _ H2 s2 => eb_test ?_).to rfl) fun H2 s2 => ?_
    · refine Ev.toB (ev_ne (ev_lenT (kx H2 (s1.trans s2))) (fun _ _ => ev_slot rfl) rfl) ?_
      rw [List.length_map, hq.1, decide_eq_true rfl]
      rfl
    · refine q_seq ?_
      refine s_for (kp := Kp M) (evi_enumT (M := M) (ds := ps.map PyData.int) (kx H2 (s1.trans s2))) (fun i σ' Ha Hb => Same Ha Hb ∧ ∃ u v, σ' = [some (.int (n : Nat)), some x, u, v]) (fun Ha _ => ⟨Same.refl _, none, none, rfl⟩) (fun _ _ _ _ w => Kp.of w.1) ?_ ?_
      · rintro i y σ' Ha Hb Hc hi sa ⟨sw, u, v, rfl⟩ sb ⟨d, z, a, hd, rfl, hs, hz⟩
        refine ⟨a, _, rfl, hs, rfl, _, _, rfl, _, _, rfl, rfl, ?_⟩
        obtain ⟨p, hpi, rfl⟩ := ints_at hd
        cases hz
        have hb := hq.2 p (List.mem_of_getElem? hpi)
        refine s_no (D := { nx := fun σ3 H3 => Same Ha H3 ∧ ∃ u v, σ3 = [some (.int (n : Nat)), some x, u, v], rt := Q, bk := _, ct := fun σ3 H3 => Same Ha H3 ∧ ∃ u v, σ3 = [some (.int (n : Nat)), some x, u, v] }) ((eb_not (eb_val (b := true) ?_)).to rfl) fun H3 s3 => ⟨(sw.trans sb).trans s3, _, _, rfl⟩
        refine Ev.toB (ev_isint (x := .int p) (k := "int") (lo := 1) (hi := 999) (ev_var rfl ⟨rfl, .int p⟩) (fun _ _ => ev_c rfl) (fun _ _ => ev_c rfl)) ?_
        rw [isInt_int, decide_eq_true hb.1, decide_eq_true hb.2]
        rfl
      · rintro σ' Ha Hb sa ⟨sw, u, v, rfl⟩
        have sab : Same H Hb := ((s1.trans s2).trans sa).trans sw
        refine s_end (t := tRet (tVar 1)) rfl (s_ret (P := PD M (dI (pricesOf n ps))) ?_ ?_)
        · unfold pricesOf
          rw [if_neg hne]
          exact ev_var rfl (hx.kp (Kp.of sab))
        · exact q.s sab
theorem ev_cprices {M : Md} {σ : L2.St} {H : Hp} {ta tb : TE} {ps : List Int} {n : Nat} (ha : Ev ta σ H (PI (n : Int))) (hb : ∀ H1, Same H H1 → Ev tb σ H1 (PD M (dI ps))) (n2 : 2 ≤ n) (n12 : n ≤ 12) (hp : PricesOk n ps) :
    Ev (tCall (sp_checked_prices M) [] E0 (tCons ta (tCons tb tNil))) σ H (PD M (dI (pricesOf n ps))) := fun Q q =>
  ha _ fun y H1 s1 p1 => hb H1 s1 _ fun z H2 s2 p2 => ⟨z, ps, n, by rw [show y = V.int (n : Nat) from p1]; rfl, p2, n2, n12, hp, (show Pr _ H Q from q).s (s1.trans s2)⟩

/-! ### Ring -/
def mkRing (n : Nat) (l w p : List Int) : RingD := ⟨n, l, w, pricesOf n p⟩
structure RingArgs (n : Nat) (l w p : List Int) : Prop where
  n2 : 2 ≤ n
  n12 : n ≤ 12
  lk : Asc l 0 ((n : Int) - 1)
  wl : Asc w 0 ((n : Int) - 1)
  pr : PricesOk n p
theorem asc_len : ∀ {ns : List Int} {lo hi : Int}, Asc ns lo hi → (ns.length : Int) ≤ max 0 (hi - lo + 1)
  | [], _, _, _ => by simp; omega
  | n :: ns, lo, hi, ⟨h1, h2⟩ => by
    have hn := h1 n (List.mem_cons_self ..)
    have h3 := List.pairwise_cons.mp h2
    have ih := asc_len (ns := ns) (lo := n + 1) (hi := hi) ⟨fun i hi' => ⟨by have := h3.1 i hi'; omega, (h1 i (List.mem_cons_of_mem _ hi')).2⟩, h3.2⟩
    rw [List.length_cons]
    omega
theorem pricesOf_ok {n : Nat} {p : List Int} (h : PricesOk n p) : (pricesOf n p).length = n ∧ ∀ q ∈ pricesOf n p, 1 ≤ q ∧ q ≤ 999 := by
  unfold pricesOf
  by_cases e : p = []
  · rw [if_pos e]
    refine ⟨List.length_replicate, fun q hq => ?_⟩
    rw [List.eq_of_mem_replicate hq]
    decide
  · rw [if_neg e]
    exact h.resolve_left e
theorem RingArgs.ok {n : Nat} {l w p : List Int} (a : RingArgs n l w p) : (mkRing n l w p).Ok := ⟨a.n2, a.n12, a.lk, a.wl, (pricesOf_ok a.pr).1, (pricesOf_ok a.pr).2⟩
/-- __init__: the new instance becomes the ring; all else stands -/
def sp_Ring_init (M : Md) : Sp := fun vs H Q _ => ∃ (a dx : Addr) (xl xw xp : V) (n : Nat) (l w p : List Int), vs = [.ref a, .int (n : Nat), xl, xw, xp] ∧ H a = some (.ins M.ring dx []) ∧ Dt M H xl (dI l) ∧ Dt M H xw (dI w) ∧ Dt M H xp (dI p) ∧ RingArgs n l w p ∧
  ∀ H', (∀ b o, b ≠ a → H b = some o → H' b = some o) → IsRing M H' (.ref a) (mkRing n l w p) → Q .non H'
abbrev N_Ring_init : List Str := ["self", "size", "locks", "walls", "prices"]
def t_Ring_init (M : Md) : TS := (tSeq (tIfS (tNot (tB (tCall (sp_is_integer M) [] E0 (tCons (tVar 1) (tCons (tC (.int 2)) (tCons (tC (.int 12)) tNil)))))) tNever tNext)
  (tSeq (tIfS (tNot (tB (tCall (sp_is_ascending M) [] E0 (tCons (tVar 2) (tCons (tC (.int 0)) (tCons (tOp rSubI (tVar 1) (tC (.int 1))) tNil)))))) tNever tNext)
  (tSeq (tIfS (tNot (tB (tCall (sp_is_ascending M) [] E0 (tCons (tVar 3) (tCons (tC (.int 0)) (tCons (tOp rSubI (tVar 1) (tC (.int 1))) tNil)))))) tNever tNext)
  (tSeq (sFld M.K (tVar 0) (tVar 1) "size")
  (tSeq (sFld M.K (tVar 0) (tVar 2) "locks")
  (tSeq (sFld M.K (tVar 0) (tVar 3) "walls")
  (sFld M.K (tVar 0) (tCall (sp_checked_prices M) [] E0 (tCons (tVar 1) (tCons (tVar 4) tNil))) "prices")))))))
theorem rd_Ring_init {M : Md} (C : RCls M) {vs : List V} {H : Hp} {Q : VK} {E : XK} (h : sp_Ring_init M vs H Q E) : t_Ring_init M { nx := fun _ H' => Q .non H', rt := Q } (start N_Ring_init vs) H := by
  obtain ⟨a, dx, xl, xw, xp, n, l, w, p, rfl, ha, hl, hw, hp, A, q⟩ := h
  have ll : l.length ≤ 1000 := by have := asc_len A.lk; have := A.n12; omega
  have lw : w.length ≤ 1000 := by have := asc_len A.wl; have := A.n12; omega
  refine q_no ((eb_not (eb_val (b := true) ?_)).to rfl) fun H1 s1 => ?_
  · have h2 := A.n2
    have h12 := A.n12
    refine Ev.toB (ev_isint (x := .int (n : Nat)) (k := "int") (lo := 2) (hi := 12) (ev_var rfl ⟨rfl, .int _⟩) (fun _ _ => ev_c rfl) (fun _ _ => ev_c rfl)) ?_
    rw [isInt_int, decide_eq_true (by omega : (2 : Int) ≤ n), decide_eq_true (by omega : (n : Int) ≤ 12)]
    rfl
  refine q_no ((eb_not (eb_val (b := true) ?_)).to rfl) fun H2 s2 => ?_
  · intro Q' q'
    exact ⟨_, rfl, _, rfl, _, _, rfl, rfl, xl, l, 0, _, rfl, hl.kp (Kp.of s1), A.lk, ll, q'⟩
  refine q_no ((eb_not (eb_val (b := true) ?_)).to rfl) fun H3 s3 => ?_
  · intro Q' q'
    exact ⟨_, rfl, _, rfl, _, _, rfl, rfl, xw, w, 0, _, rfl, hw.kp (Kp.of (s1.trans s2)), A.wl, lw, q'⟩
  have s123 : Same H H3 := (s1.trans s2).trans s3
  have ha3 : H3 a = some (.ins M.ring dx []) := s123 _ _ ha
  -- the four stores
  refine ⟨_, rfl, _, rfl, a, M.ring, dx, [], rfl, ha3, C.cl, C.nS, (by show 0 < 1000; decide), ?_⟩
  refine ⟨_, rfl, _, rfl, a, M.ring, dx, _, rfl, upd_same, C.cl, C.nL, (by show 1 < 1000; decide), ?_⟩
  refine ⟨_, rfl, _, rfl, a, M.ring, dx, _, rfl, upd_same, C.cl, C.nW, (by show 2 < 1000; decide), ?_⟩
  rw [upd_upd, upd_upd]
  have ef : putF "walls" xw (putF "locks" xl (putF "size" (.int (n : Nat)) [])) = ([("size", .int (n : Nat)), ("locks", xl), ("walls", xw)] : List (Str × V)) := by
    show putF "walls" xw (if ("size" : Str) = "locks" then _ else _) = _
    rw [if_neg str_sl]
    show (if ("size" : Str) = "walls" then _ else (_ :: (if ("locks" : Str) = "walls" then _ else _))) = _
    rw [if_neg str_sw, if_neg str_lw]
    rfl
  rw [ef]
  have kp : ∀ b o, b ≠ a → H b = some o → (upd H3 a (.ins M.ring dx [("size", .int (n : Nat)), ("locks", xl), ("walls", xw)])) b = some o := fun b o hb e => by
    rw [upd_ne hb]
    exact s123 _ _ e
  -- tuples stand
  have kt : ∀ {x : V} {d : PyData}, Dt M H x d → Dt M (upd H3 a (.ins M.ring dx [("size", .int (n : Nat)), ("locks", xl), ("walls", xw)])) x d := fun hx => Dt.tt (fun b xs e => by
    rcases e with e | ⟨o, e⟩
    · exact .inl (kp _ _ (ne_of e ha fun z => nomatch z) e)
    · exact .inr ⟨o, kp _ _ (ne_of e ha fun z => nomatch z) e⟩) hx
  refine ev_cprices (M := M) (ev_var (P := PI (n : Int)) rfl rfl) (fun H4 s4 => ev_var rfl ((kt hp).kp (Kp.of s4))) A.n2 A.n12 A.pr _ fun v H4 s4 hv => ?_
  have ha4 := s4 _ _ (upd_same (H := H3) (a := a) (o := .ins M.ring dx [("size", .int (n : Nat)), ("locks", xl), ("walls", xw)]))
  refine ⟨_, rfl, a, M.ring, dx, _, rfl, ha4, C.cl, C.nP, (by show 3 < 1000; decide), ?_⟩
  have ef2 : putF "prices" v ([("size", .int (n : Nat)), ("locks", xl), ("walls", xw)] : List (Str × V)) = ringFs n xl xw v := by
    show (if ("size" : Str) = "prices" then _ else (_ :: (if ("locks" : Str) = "prices" then _ else (_ :: (if ("walls" : Str) = "prices" then _ else _))))) = _
    rw [if_neg str_sp, if_neg str_lp, if_neg str_wp]
    rfl
  have k5 : ∀ b xs, Rd H4 b (.tup xs) → Rd (upd H4 a (.ins M.ring dx (putF "prices" v [("size", .int (n : Nat)), ("locks", xl), ("walls", xw)]))) b (.tup xs) := fun b xs e => by
    rcases e with e | ⟨o, e⟩
    · exact .inl (by rw [upd_ne (ne_of e ha4 fun z => nomatch z)]; exact e)
    · exact .inr ⟨o, by rw [upd_ne (ne_of e ha4 fun z => nomatch z)]; exact e⟩
  refine q _ (fun b o hb e => by rw [upd_ne hb]; exact s4 _ _ (kp b o hb e)) ⟨a, dx, xl, xw, v, rfl, ?_, Dt.tt k5 ((kt hl).kp (Kp.of s4)), Dt.tt k5 ((kt hw).kp (Kp.of s4)), Dt.tt k5 hv⟩
  rw [upd_same, ef2]
  rfl
end Crx

set_option maxHeartbeats 4000000
/-! Rd3: rings' texts, instructions, mappings, contents: promises and readings. -/
namespace Crx
open PySem PySem.Spec PyProof.Rows L2 RZ

/-! ### texts of numbers, of a ring -/
/-- str(i) -/
def numS (i : Int) : Str := Str.ofString (toString i)
def ringWords (R : RingD) : List Str := [("ring" : Str), numS R.n, ("locks" : Str)] ++ R.locks.map numS ++ [("walls" : Str)] ++ R.walls.map numS ++ [("prices" : Str)] ++ R.prices.map numS
def ringText (R : RingD) : Str := Txt.join (" " : Str) (ringWords R)
theorem numS_len {i : Int} (h0 : 0 ≤ i) {k : Nat} (hk : 0 < k) (h : i < (10 ^ k : Nat)) : (numS i).length ≤ k := by
  obtain ⟨n, rfl⟩ := Int.eq_ofNat_of_zero_le h0
  unfold numS
  rw [TL.len_tl, TL.tl_num]
  exact TL.numL_len hk (by exact_mod_cast h)
theorem small_log {i : Int} (h0 : 0 ≤ i) (h : i < 1000000) : i.natAbs.log2 < 1920 := by
  obtain ⟨n, rfl⟩ := Int.eq_ofNat_of_zero_le h0
  have hn : n < 2 ^ 20 := by omega
  rw [Int.natAbs_natCast]
  by_cases e : n = 0
  · subst e
    decide
  · have := (Nat.log2_lt e).mpr hn
    omega
theorem wipe_set1 {σ : L2.St} {j : Nat} (x : V) : wipe ((wipe σ [j]).set j (some x)) [j] = wipe σ [j] := by
  show ((σ.set j none).set j (some x)).set j none = σ.set j none
  rw [List.set_set, List.set_set]
section
variable {M : Md} {σ : L2.St} {H : Hp} {te ts : TE} {ns : List Int}
/-- [str(i) for i in a tuple of ints] -/
theorem ev_strs {j : Nat} {vs : List Nat} (h : Ev ts σ H (PD M (dI ns))) (hj : j < σ.length) (hv : vs = [j]) (hb : ∀ i ∈ ns, 0 ≤ i ∧ i < 1000000) (hz : ns.length ≤ 1000000) :
    Ev (tLc (iTup M.K ts) (gName j) tYes (tCB rStrI (tCons (tVar j) tNil)) vs) σ H (PL M ((ns.map numS).map PyData.str)) := by
  subst hv
  have e : (List.range ns.length).map (fun i => PyData.str (numS (ns.getD i 0))) = (ns.map numS).map PyData.str := by
    rw [List.map_map]
    refine map_range_get rfl fun i a h => ?_
    rw [List.getD_eq_getElem?_getD, h]
    rfl
  rw [← e]
  refine ev_lc1 (n := ns.length) (e := fun i => PyData.str (numS (ns.getD i 0))) (evi_tupI h).toL ?_ (fun x => ?_) hz fun j y Ha Hb s h => h
  · rintro i x H1 hi s1 ⟨k, hk, rfl⟩
    have hm := hb k (List.mem_of_getElem? hk)
    rw [List.getD_eq_getElem?_getD, hk, Option.getD_some]
    refine Ev.dS (ev_strI (ev_slot ?_) (small_log hm.1 hm.2))
    exact List.getElem?_set_self (by rw [wipe_length]; exact hj)
  · exact wipe_set1 x
end

theorem RingD.Ok.lock {R : RingD} (h : R.Ok) : ∀ i ∈ R.locks, 0 ≤ i ∧ i < R.n := fun i hi => by have := h.lk.1 i hi; omega
theorem RingD.Ok.wall {R : RingD} (h : R.Ok) : ∀ i ∈ R.walls, 0 ≤ i ∧ i < R.n := fun i hi => by have := h.wl.1 i hi; omega
theorem RingD.Ok.ll {R : RingD} (h : R.Ok) : R.locks.length ≤ 12 := by have := asc_len h.lk; have := h.n12; omega
theorem RingD.Ok.wl' {R : RingD} (h : R.Ok) : R.walls.length ≤ 12 := by have := asc_len h.wl; have := h.n12; omega
theorem sum_lens {ns : List Int} (h : ∀ i ∈ ns, 0 ≤ i ∧ i < 1000) : ((ns.map numS).map (·.length)).sum ≤ 3 * ns.length := by
  induction ns with
  | nil => exact Nat.le_refl _
  | cons n ns ih =>
    have h1 := h n (List.mem_cons_self ..)
    have h2 := ih fun i hi => h i (List.mem_cons_of_mem _ hi)
    have h3 : (numS n).length ≤ 3 := numS_len h1.1 (by decide) (by omega)
    rw [List.map_cons, List.map_cons, List.sum_cons, List.length_cons]
    omega
theorem str_lens : ("ring" : Str).length = 4 ∧ ("locks" : Str).length = 5 ∧ ("walls" : Str).length = 5 ∧ ("prices" : Str).length = 6 ∧ (" " : Str).length = 1 := by decide +kernel
theorem ringWords_bound {R : RingD} (h : R.Ok) : ((ringWords R).map (·.length)).sum + (ringWords R).length * (" " : Str).length ≤ 1000 := by
  have h1 := sum_lens (ns := R.locks) fun i hi => by have := h.lock i hi; have := h.n12; omega
  have h2 := sum_lens (ns := R.walls) fun i hi => by have := h.wall i hi; have := h.n12; omega
  have h3 := sum_lens (ns := R.prices) fun i hi => by have := h.pr i hi; omega
  have h4 : (numS R.n).length ≤ 3 := numS_len (by omega) (by decide) (by have := h.n12; omega)
  have l1 := h.ll
  have l2 := h.wl'
  have l3 := h.pl
  have l4 := h.n12
  obtain ⟨e1, e2, e3, e4, e5⟩ := str_lens
  unfold ringWords
  simp only [List.map_append, List.map_cons, List.map_nil, List.sum_append, List.sum_cons, List.sum_nil, List.length_append, List.length_cons, List.length_nil, List.length_map, e1, e2, e3, e4, e5] at h1 h2 h3 ⊢
  omega

/-! ### Ring.__str__ -/
def sp_Ring_str (M : Md) : Sp := fun vs H Q _ => ∃ x R, vs = [x] ∧ IsRing M H x R ∧ R.Ok ∧ Pr (PV (.str (ringText R))) H Q
abbrev N_Ring_str : List Str := ["self", "words", "place", "price_here"]
def t_Ring_str (M : Md) : TS := (tSeq (tAsg (tOp rCat (tLst (tCons (tC (.str "ring")) (tCons (tCB rStrI (tCons (tFld M.K (tVar 0) "size") tNil)) (tCons (tC (.str "locks")) tNil)))) (tLc (iTup M.K (tFld M.K (tVar 0) "locks")) (gName 2) tYes (tCB rStrI (tCons (tVar 2) tNil)) [2])) (gName 1))
  (tSeq (tAsg (tOp rCat (tOp rCat (tVar 1) (tLst (tCons (tC (.str "walls")) tNil))) (tLc (iTup M.K (tFld M.K (tVar 0) "walls")) (gName 2) tYes (tCB rStrI (tCons (tVar 2) tNil)) [2])) (gName 1))
  (tRet (tM1 (rJoin M.K) (tC (.str " ")) (tOp rCat (tOp rCat (tVar 1) (tLst (tCons (tC (.str "prices")) tNil))) (tLc (iTup M.K (tFld M.K (tVar 0) "prices")) (gName 3) tYes (tCB rStrI (tCons (tVar 3) tNil)) [3]))))))
theorem rd_Ring_str {M : Md} (C : RCls M) {vs : List V} {H : Hp} {Q : VK} {E : XK} (h : sp_Ring_str M vs H Q E) : t_Ring_str M { nx := fun _ H' => Q .non H', rt := Q } (start N_Ring_str vs) H := by
  obtain ⟨x, R, rfl, hx, ok, q⟩ := h
  have n12 := ok.n12
  have l1 := ok.ll
  have l2 := ok.wl'
  have l3 := ok.pl
  have kx : ∀ {σ : L2.St} {H1 : Hp}, σ[0]? = some (some x) → Same H H1 → Ev (tVar 0) σ H1 (PR M R) := fun e s => ev_var e (hx.kp (Kp.of s))
  refine q_set (P := PL M (([("ring" : Str), numS R.n, ("locks" : Str)] ++ R.locks.map numS).map PyData.str)) ?_ fun v H1 s1 h1 => ?_
  · rw [List.map_append]
    refine ev_catL (ev_lst (ea1 (Ev.dS (ev_c rfl)) fun H2 s2 => ea1 (Ev.dS (ev_strI (ev_size C (kx rfl s2)) (small_log (by omega) (by omega)))) fun H3 s3 => ea1 (Ev.dS (ev_c rfl)) fun _ _ => ea0) (by show 3 ≤ 1000000; omega)) (fun H2 s2 => ?_) ?_
    · exact ev_strs (j := 2) (ev_locks C (kx rfl s2)) (by show 2 < 4; omega) rfl (fun i hi => by have := ok.lock i hi; omega) (by omega)
    · simp only [List.length_map, List.length_append, List.length_cons, List.length_nil]
      omega
  obtain ⟨a1, xs1, rfl, ha1, hd1⟩ := h1
  refine q_set (P := PL M (([("ring" : Str), numS R.n, ("locks" : Str)] ++ R.locks.map numS ++ [("walls" : Str)] ++ R.walls.map numS).map PyData.str)) ?_ fun v H2 s2 h2 => ?_
  · rw [List.map_append, List.map_append]
    refine ev_catL (ev_catL (ev_var rfl ⟨a1, xs1, rfl, ha1, hd1⟩) (fun H3 s3 => ev_lst (ea1 (Ev.dS (ev_c rfl)) fun _ _ => ea0) (by show 1 ≤ 1000000; omega)) ?_) (fun H3 s3 => ?_) ?_
    · simp only [List.length_map, List.length_append, List.length_cons, List.length_nil]
      omega
    · exact ev_strs (j := 2) (ev_walls C (kx rfl (s1.trans s3))) (by show 2 < 4; omega) rfl (fun i hi => by have := ok.wall i hi; omega) (by omega)
    · simp only [List.length_map, List.length_append, List.length_cons, List.length_nil]
      omega
  obtain ⟨a2, xs2, rfl, ha2, hd2⟩ := h2
  have s12 : Same H H2 := s1.trans s2
  refine s_ret (P := PV (.str (ringText R))) ?_ (q.s s12)
  refine ev_join (M := M) (ys := ringWords R) (ev_c rfl) (fun H3 s3 => ?_) (Nat.le_trans (ringWords_bound ok) (by decide))
  unfold ringWords
  rw [List.map_append, List.map_append]
  refine ev_catL (ev_catL (ev_var rfl ⟨a2, xs2, rfl, s3 _ _ ha2, DtA.kp (Kp.of s3) hd2⟩) (fun H4 s4 => ev_lst (ea1 (Ev.dS (ev_c rfl)) fun _ _ => ea0) (by show 1 ≤ 1000000; omega)) ?_) (fun H4 s4 => ?_) ?_
  · simp only [List.length_map, List.length_append, List.length_cons, List.length_nil]
    omega
  · exact ev_strs (j := 3) (ev_prices C (kx rfl (s12.trans (s3.trans s4)))) (by show 3 < 4; omega) rfl (fun i hi => by have := ok.pr i hi; omega) (by omega)
  · simp only [List.length_map, List.length_append, List.length_cons, List.length_nil]
    omega
end Crx

set_option maxHeartbeats 4000000
/-! Rd4: instructions, mappings, contents: promises and readings. -/
namespace Crx
open PySem PySem.Spec PyProof.Rows L2 RZ

/-! ### instructions -/
/-- a register and whether its left neighbor is copied -/
abbrev Ins := Int × Bool
def sideS (l : Bool) : Str := if l then "left" else "right"
def insD (i : Ins) : PyData := .tuple [.int i.1, .str (sideS i.2)]
def wallOf (n : Nat) (i : Ins) : Int := if i.2 then (i.1 - 1) % n else i.1
def nextOf (n : Nat) (i : Ins) : Int := (if i.2 then i.1 - 1 else i.1 + 1) % n
/-- the ring allows it -/
def okB (R : RingD) (i : Ins) : Bool := !decide (i.1 ∈ R.locks) && !decide (wallOf R.n i ∈ R.walls)
theorem side_lr : ¬ (("left" : Str) = "right") := by decide +kernel
theorem side_rl : ¬ (("right" : Str) = "left") := by decide +kernel
theorem side_left (l : Bool) : decide (sideS l = ("left" : Str)) = l := by cases l <;> decide +kernel
theorem side_right (l : Bool) : decide (sideS l = ("right" : Str)) = !l := by cases l <;> decide +kernel
/-- one copy -/
def stepL {α : Type} (d : α) (n : Nat) (i : Ins) (xs : List α) : List α := xs.take i.1.toNat ++ [xs.getD (nextOf n i).toNat d] ++ xs.drop (i.1.toNat + 1)
theorem stepL_map {α β : Type} (f : α → β) (d : α) (n : Nat) (i : Ins) (xs : List α) : (stepL d n i xs).map f = stepL (f d) n i (xs.map f) := by
  unfold stepL
  rw [List.map_append, List.map_append, List.map_take, List.map_drop, List.map_cons, List.map_nil, List.getD_eq_getElem?_getD, List.getD_eq_getElem?_getD, List.getElem?_map]
  congr 3
  cases xs[(nextOf n i).toNat]? <;> rfl
theorem stepL_len {α : Type} (d : α) {n : Nat} {i : Ins} {xs : List α} (h0 : 0 ≤ i.1) (h1 : i.1 < n) (hl : xs.length = n) : (stepL d n i xs).length = n := by
  unfold stepL
  rw [List.length_append, List.length_append, List.length_take, List.length_drop, List.length_singleton, hl]
  omega
theorem next_bound {n : Nat} (h : 2 ≤ n) (i : Ins) : 0 ≤ nextOf n i ∧ nextOf n i < n := by
  unfold nextOf
  exact ⟨Int.emod_nonneg _ (by omega), Int.emod_lt_of_pos _ (by omega)⟩
theorem stepL_mem {α : Type} {d : α} {n : Nat} {i : Ins} {xs : List α} {P : α → Prop} (hn : 2 ≤ n) (hl : xs.length = n) (h : ∀ x ∈ xs, P x) : ∀ x ∈ stepL d n i xs, P x := by
  have hb := next_bound hn i
  intro x hx
  unfold stepL at hx
  rcases List.mem_append.mp hx with hx | hx
  · rcases List.mem_append.mp hx with hx | hx
    · exact h x (List.mem_of_mem_take hx)
    · rw [List.mem_singleton.mp hx, List.getD_eq_getElem?_getD, List.getElem?_eq_getElem (by omega), Option.getD_some]
      exact h _ (List.getElem_mem _)
  · exact h x (List.mem_of_mem_drop hx)
theorem stepL_any {α : Type} (d d' : α) {n : Nat} (hn : 2 ≤ n) (i : Ins) {xs : List α} (hl : xs.length = n) : stepL d n i xs = stepL d' n i xs := by
  have hb := next_bound hn i
  unfold stepL
  rw [List.getD_eq_getElem?_getD, List.getD_eq_getElem?_getD, List.getElem?_eq_getElem (by omega), Option.getD_some, Option.getD_some]
theorem ins_sq {M : Md} {H : Hp} {x : V} {i : Ins} (h : Dt M H x (insD i)) : ∃ a, x = .ref a ∧ SqT M.K H a [.int i.1, .str (sideS i.2)] := by
  obtain ⟨a, xs, e, hs, hd⟩ := Dt.sq h
  cases hd with
  | cons a b =>
    cases a
    cases b with
    | cons a b =>
      cases a
      cases b
      exact ⟨_, e, hs⟩
/-! ### slices at one place -/
theorem cut_to (ds : List PyData) {p : Nat} (h : p ≤ ds.length) : cutD ds none (some (p : Int)) = ds.take p := by
  unfold cutD
  rw [HT.sIx_nat, HT.sIx_none, List.drop_zero, Nat.sub_zero, Nat.min_eq_left h]
theorem cut_from (ds : List PyData) {p : Nat} (h : p ≤ ds.length) : cutD ds (some (p : Int)) none = ds.drop p := by
  unfold cutD
  rw [HT.sIx_nat, HT.sIx_none, Nat.min_eq_left h, List.take_of_length_le]
  rw [List.length_drop]
  exact Nat.le_refl _
theorem at_nat {α : Type} {xs : List α} {i : Int} {x : α} (h0 : 0 ≤ i) (h : xs[i.toNat]? = some x) : atI xs i = some x := by
  have hl := (List.getElem?_eq_some_iff.mp h).1
  unfold atI ixN
  rw [if_pos h0, if_pos (by omega), Option.bind_some]
  exact h

/-! ### Ring.allows -/
def sp_Ring_allows (M : Md) : Sp := fun vs H Q _ => ∃ x y R i, vs = [x, y] ∧ IsRing M H x R ∧ R.Ok ∧ Dt M H y (insD i) ∧ 0 ≤ i.1 ∧ i.1 < R.n ∧ Pr (PB (okB R i)) H Q
abbrev N_Ring_allows : List Str := ["self", "value", "place", "side", "wall"]
def t_Ring_allows (M : Md) : TS := (tSeq (tIfS (tOr (tNot (tB (tCB (rIsi M.K) (tCons (tVar 1) (tCons (tC (.ty "tuple")) tNil))))) (tOr (tTest (tOp rNe (tCB (rLenQ M.K) (tCons (tVar 1) tNil)) (tC (.int 2)))) (tNot (tB (tCall (sp_is_integer M) [] E0 (tCons (tOp (rIxT M.K) (tVar 1) (tC (.int 0))) (tCons (tC (.int 0)) (tCons (tOp rSubI (tFld M.K (tVar 0) "size") (tC (.int 1))) tNil)))))))) (tRet (tC (.bl false))) tNext)
  (tSeq (tAsg (tVar 1) (gTup M.K 2 (gCons (gName 2) (gCons (gName 3) gNil))))
  (tSeq (tIfS (tOr (tNot (tB (tCB (rIsi M.K) (tCons (tVar 3) (tCons (tC (.ty "str")) tNil))))) (tOr (tTest (tOp (rIn M.K true) (tVar 3) (tTup (tCons (tC (.str "left")) (tCons (tC (.str "right")) tNil))))) (tTest (tOp (rIn M.K false) (tVar 2) (tFld M.K (tVar 0) "locks"))))) (tRet (tC (.bl false))) tNext)
  (tSeq (tAsg (tIf (tTest (tOp rEq (tVar 3) (tC (.str "right")))) (tVar 2) (tOp rModI (tOp rSubI (tVar 2) (tC (.int 1))) (tFld M.K (tVar 0) "size"))) (gName 4))
  (tRet (tOp (rIn M.K true) (tVar 4) (tFld M.K (tVar 0) "walls")))))))
theorem rd_Ring_allows {M : Md} (C : RCls M) {vs : List V} {H : Hp} {Q : VK} {E : XK} (h : sp_Ring_allows M vs H Q E) : t_Ring_allows M { nx := fun _ H' => Q .non H', rt := Q } (start N_Ring_allows vs) H := by
  obtain ⟨x, y, R, i, rfl, hx, ok, hy, i0, i1, q⟩ := h
  have n2 := ok.n2
  have kx : ∀ {σ : L2.St} {H1 : Hp}, σ[0]? = some (some x) → Same H H1 → Ev (tVar 0) σ H1 (PR M R) := fun e s => ev_var e (hx.kp (Kp.of s))
  have ky : ∀ {σ : L2.St} {H1 : Hp}, σ[1]? = some (some y) → Same H H1 → Ev (tVar 1) σ H1 (PD M (insD i)) := fun e s => ev_var e (hy.kp (Kp.of s))
  refine q_no ((eb_or (b := false) (c := false) ((eb_not (eb_val (ev_isi (k := "tuple") (b := true) (ev_var rfl (Dt.kd hy)) (by decide +kernel)))).to rfl) fun _ H1 s1 =>
    (eb_or (b := false) (c := false) (eb_test (Ev.toB (ev_ne (ev_lenT (ky rfl s1)) (fun _ _ => ev_c rfl) rfl) rfl)) fun _ H2 s2 => (eb_not (b := true) (eb_val ?_)).to rfl).to rfl).to rfl) fun H1 s1 => ?_
  · have e := ev_isint (M := M) (σ := start N_Ring_allows [x, y]) (H := H2) (x := .int i.1) (k := "int") (lo := 0) (hi := (R.n : Int) - 1) (ta := tOp (rIxT M.K) (tVar 1) (tC (.int 0))) (tb := tC (.int 0)) (tc := tOp rSubI (tFld M.K (tVar 0) "size") (tC (.int 1)))
      ((ev_ix (d := .int i.1) (ky rfl (s1.trans s2)) (fun _ _ => ev_c rfl) rfl).imp fun v H' _ p => by cases p; exact ⟨rfl, .int i.1⟩)
      (fun _ _ => ev_c rfl) (fun H3 s3 => ev_i0 (g := fun i j => .int (i - j)) (ev_size C (kx rfl ((s1.trans s2).trans s3))) (fun _ _ => ev_c rfl))
    rw [isInt_int, decide_eq_true i0, decide_eq_true (by omega)] at e
    exact e
  refine q_un2 (ky rfl s1) fun v w H2 s2 hv hw => ?_
  cases hv
  cases hw
  have s12 : Same H H2 := s1.trans s2
  have sd : ∀ l, (decide (sideS l ∈ [("left" : Str), ("right" : Str)])) = true := fun l => by cases l <;> decide +kernel
  refine q_if (b := decide (i.1 ∈ R.locks)) ((eb_or (b := false) (c := decide (i.1 ∈ R.locks)) ((eb_not (eb_val (ev_isi (k := "str") (b := true) (ev_var rfl (.str _)) (by decide +kernel)))).to rfl) fun _ H3 s3 =>
    (eb_or (b := false) (c := decide (i.1 ∈ R.locks)) (eb_test ?_) fun _ H4 s4 => eb_test ?_).to (Bool.false_or _)).to (Bool.false_or _)) (fun e H3 s3 => ?_) (fun e H3 s3 => ?_)
  · refine Ev.toB (ev_niS (a := sideS i.2) (ys := [("left" : Str), ("right" : Str)]) (ev_slot rfl) fun H5 s5 => ev_tup (ea1 (.dS (ev_c rfl)) fun _ _ => ea1 (.dS (ev_c rfl)) fun _ _ => ea0) (by show 2 ≤ 1000000; omega)) ?_
    rw [sd]
    rfl
  · exact ev_inI (ev_slot rfl) fun H5 s5 => ev_locks C (kx rfl ((s12.trans (s3.trans s4)).trans s5))
  · refine s_ret (P := PB (okB R i)) (Ev.toB (ev_c rfl) ?_) (q.s (s12.trans s3))
    unfold okB
    rw [e]
    rfl
  refine q_set (P := PI (wallOf R.n i)) ?_ fun v H4 s4 hv => ?_
  · unfold wallOf
    refine ev_if (b := !i.2) (eb_test (Ev.toB (ev_eq (ev_slot rfl) (fun _ _ => ev_c rfl) rfl) ?_)) (fun e H5 s5 => ?_) (fun e H5 s5 => ?_)
    · exact (decide_eq_decide.mpr ⟨fun e => V.str.inj e, fun e => congrArg V.str e⟩).trans (side_right i.2)
    · rw [if_neg (by simpa using e)]
      exact ev_slot rfl
    · rw [if_pos (by simpa using e)]
      exact ev_i (g := fun i j => .int (i % j)) (ev_i0 (g := fun i j => .int (i - j)) (ev_slot rfl) (fun _ _ => ev_c rfl)) (fun H6 s6 => ev_size C (kx rfl ((s12.trans (s3.trans s5)).trans s6))) (by omega)
  obtain rfl : v = .int (wallOf R.n i) := hv
  have s14 : Same H H4 := s12.trans (s3.trans s4)
  refine s_ret (P := PB (okB R i)) (Ev.toB (ev_niI (ev_slot rfl) fun H5 s5 => ev_walls C (kx rfl (s14.trans s5))) ?_) (q.s s14)
  unfold okB
  rw [e]
  rfl

/-! ### effects -/
def sp_identity_of (M : Md) : Sp := fun vs H Q _ => ∃ x R, vs = [x] ∧ IsRing M H x R ∧ R.Ok ∧ Pr (PD M (dI (upTo R.n))) H Q
abbrev N_identity_of : List Str := ["ring"]
def t_identity_of (M : Md) : TS := (tRet (tCB (rTupOf M.K) (tCons (tLstRg (tRg1 (tFld M.K (tVar 0) "size"))) tNil)))
theorem rd_identity_of {M : Md} (C : RCls M) {vs : List V} {H : Hp} {Q : VK} {E : XK} (h : sp_identity_of M vs H Q E) : t_identity_of M { nx := fun _ H' => Q .non H', rt := Q } (start N_identity_of vs) H := by
  obtain ⟨x, R, rfl, hx, ok, q⟩ := h
  exact s_ret (P := PD M (dI (upTo R.n))) (ev_tupL (ev_lrange (ev_size C (ev_var rfl hx)) (by have := ok.n12; omega))) q
def sp_check_ring (M : Md) : Sp := fun vs H Q _ => ∃ x R, vs = [x] ∧ IsRing M H x R ∧ Pr (PV .non) H Q
abbrev N_check_ring : List Str := ["ring"]
def t_check_ring (M : Md) : TS := (tIfS (tNot (tB (tCB (rIsi M.K) (tCons (tVar 0) (tCons (tC (.ref M.ring)) tNil))))) tNever tNext)
def sp_after (M : Md) : Sp := fun vs H Q _ => ∃ x y ds i, ∃ n : Nat, vs = [x, y, .int n] ∧ Dt M H x (.tuple ds) ∧ Dt M H y (insD i) ∧ ds.length = n ∧ 2 ≤ n ∧ n ≤ 12 ∧ 0 ≤ i.1 ∧ i.1 < n ∧ Pr (PD M (.tuple (stepL .none n i ds))) H Q
abbrev N_after : List Str := ["mapping", "instruction", "size", "place", "side", "source"]
def t_after (M : Md) : TS := (tSeq (tAsg (tVar 1) (gTup M.K 2 (gCons (gName 3) (gCons (gName 4) gNil))))
  (tSeq (tAsg (tOp rModI (tIf (tTest (tOp rEq (tVar 4) (tC (.str "left")))) (tOp rSubI (tVar 3) (tC (.int 1))) (tOp rAddI (tVar 3) (tC (.int 1)))) (tVar 2)) (gName 5))
  (tRet (tOp (rCatA M.K) (tOp (rCatA M.K) (tSl (rSlA M.K) (tVar 0) tNoPart (tPart (tVar 3))) (tTup (tCons (tOp (rIxT M.K) (tVar 0) (tVar 5)) tNil))) (tSl (rSlA M.K) (tVar 0) (tPart (tOp rAddI (tVar 3) (tC (.int 1)))) tNoPart)))))
theorem rd_after {M : Md} {vs : List V} {H : Hp} {Q : VK} {E : XK} (h : sp_after M vs H Q E) : t_after M { nx := fun _ H' => Q .non H', rt := Q } (start N_after vs) H := by
  obtain ⟨x, y, ds, i, n, rfl, hx, hy, hl, n2, n12, i0, i1, q⟩ := h
  have hb := next_bound n2 i
  have hp : ((i.1.toNat : Nat) : Int) = i.1 := Int.toNat_of_nonneg i0
  refine q_un2 (ev_var rfl hy) fun v w H1 s1 hv hw => ?_
  cases hv
  cases hw
  refine q_set (P := PI (nextOf n i)) ?_ fun v H2 s2 hv => ?_
  · unfold nextOf
    refine ev_i (g := fun i j => .int (i % j)) (ev_if (b := i.2) (P := PI (if i.2 then i.1 - 1 else i.1 + 1)) (eb_test (Ev.toB (ev_eq (ev_slot rfl) (fun _ _ => ev_c rfl) rfl) ?_)) (fun e H5 s5 => ?_) (fun e H5 s5 => ?_)) (fun _ _ => ev_slot rfl) (by omega)
    · exact (decide_eq_decide.mpr ⟨fun e => V.str.inj e, fun e => congrArg V.str e⟩).trans (side_left i.2)
    · rw [if_pos e]
      exact ev_i0 (g := fun i j => .int (i - j)) (ev_slot rfl) (fun _ _ => ev_c rfl)
    · rw [if_neg (by rw [e]; exact Bool.false_ne_true)]
      exact ev_i0 (g := fun i j => .int (i + j)) (ev_slot rfl) (fun _ _ => ev_c rfl)
  obtain rfl : v = .int (nextOf n i) := hv
  have s12 : Same H H2 := s1.trans s2
  have kx : ∀ {σ : L2.St} {H3 : Hp}, σ[0]? = some (some x) → Same H2 H3 → Ev (tVar 0) σ H3 (PD M (.tuple ds)) := fun e s => ev_var e (hx.kp (Kp.of (s12.trans s)))
  refine s_ret (P := PD M (.tuple (stepL .none n i ds))) ?_ (q.s s12)
  unfold stepL
  refine ev_cat (ev_cat ?_ (fun H3 s3 => ev_tup (ea1 (ev_ix (kx rfl s3) (fun _ _ => ev_slot rfl) (at_nat hb.1 (x := ds.getD (nextOf n i).toNat .none) ?_)) fun _ _ => ea0) (by show 1 ≤ 1000000; omega)) ?_) (fun H3 s3 => ?_) ?_
  · rw [← cut_to ds (p := i.1.toNat) (by omega), hp]
    exact ev_slice (kx rfl (Same.refl _)) (fun _ _ => ep_none) (fun _ _ => ep_some (ev_slot rfl))
  · rw [List.getD_eq_getElem?_getD, List.getElem?_eq_getElem (by omega), Option.getD_some]
  · rw [List.length_take, List.length_singleton]
    omega
  · rw [← cut_from ds (p := i.1.toNat + 1) (by omega)]
    refine ev_slice (kx rfl s3) (fun _ _ => ep_some ?_) (fun _ _ => ep_none)
    refine Ev.toI (ev_i0 (g := fun i j => .int (i + j)) (ev_slot rfl) (fun _ _ => ev_c rfl)) (by omega)
  · rw [List.length_append, List.length_take, List.length_singleton, List.length_drop]
    omega
end Crx

set_option maxHeartbeats 4000000
/-! Rd5: contents, effects of rows of instructions. -/
namespace Crx
open PySem PySem.Spec PyProof.Rows L2 RZ

/-! ### own classes: isinstance, the order of == -/
structure ICls (K : PySem.W.Frag) (C : Addr) : Prop where
  cl : Cls K C
  ca : PySem.W.findIn K (.ref C) "__class__" = some (some (.builtin "object.__class__"))
  cn : PySem.W.specialIn K (.builtin "object.__class__") "__get__" = some (some (.builtin "getset_descriptor.__get__"))
  ct : PySem.W.takesIn K (.builtin "object.__class__") = some true
  cm : PySem.W.mroIn K C (.type "object") = some true
  me : PySem.W.kitOne K (.ref C) (.ref C) = some true
  no : ∀ k ∈ ["NoneType", "int", "str", "tuple"], PySem.W.kitOne K (.type k) (.ref C) = some false
  nf : ∀ k ∈ ["NoneType", "int", "str", "tuple"], PySem.W.notFirst K C (.type k) = true
theorem ICls.ty {K : PySem.W.Frag} {C : Addr} (i : ICls K C) {H : Hp} {a dx : Addr} {fs : List (Str × V)} (h : H a = some (.ins C dx fs)) : TyX K H (.ref a) (.ref C) := .base (.ins h i.cl i.ca i.cn i.ct i.cm)
section
variable {M : Md} {σ : L2.St} {H : Hp} {ta te ts : TE} {C : Addr} {R : RingD}
/-- isinstance(x, C), x an instance of C -/
theorem ev_isMe (i : ICls M.K C) (h : Ev te σ H fun x H' => ∃ a dx fs, x = .ref a ∧ H' a = some (.ins C dx fs)) : Ev (tCB (rIsi M.K) (tCons te (tCons (tC (.ref C)) tNil))) σ H (PB true) := fun Q q =>
  h _ fun y H1 s1 ⟨a, dx, fs, e, ha⟩ => ⟨y, .ref C, .ref C, .ref C, true, rfl, .own C, by rw [e]; exact i.ty ha, i.me, q _ _ s1 rfl⟩
theorem ev_isRing (i : ICls M.K M.ring) (h : Ev te σ H (PR M R)) : Ev (tCB (rIsi M.K) (tCons te (tCons (tC (.ref M.ring)) tNil))) σ H (PB true) :=
  ev_isMe i (h.imp fun v H' _ ⟨a, dx, l, w, p, e, ha, _⟩ => ⟨a, dx, _, e, ha⟩)
end
theorem rd_check_ring {M : Md} (I : ICls M.K M.ring) {vs : List V} {H : Hp} {Q : VK} {E : XK} (h : sp_check_ring M vs H Q E) : t_check_ring M { nx := fun _ H' => Q .non H', rt := Q } (start N_check_ring vs) H := by
  obtain ⟨x, R, rfl, hx, q⟩ := h
  exact s_no ((eb_not (eb_val (b := true) (ev_isRing I (ev_var rfl hx)))).to rfl) fun H1 s1 => q _ _ s1 rfl

/-! ### contents -/
/-- n small letters -/
structure Letters (n : Nat) (z : Str) : Prop where
  len : z.length = n
  az : ∀ c ∈ z.cps.toList, 97 ≤ c ∧ c ≤ 122
theorem az_all : ("abcdefghijklmnopqrstuvwxyz" : Str).cps.toList = (List.range 26).map (· + 97) := by decide +kernel
theorem az_mem {c : Nat} (h : 97 ≤ c ∧ c ≤ 122) : c ∈ ("abcdefghijklmnopqrstuvwxyz" : Str).cps.toList := by
  rw [az_all]
  exact List.mem_map.mpr ⟨c - 97, List.mem_range.mpr (by omega), by omega⟩
def sp_is_content (M : Md) : Sp := fun vs H Q _ => ∃ x R z, vs = [x, .str z] ∧ IsRing M H x R ∧ R.Ok ∧ Letters R.n z ∧ Pr (PB true) H Q
abbrev N_is_content : List Str := ["ring", "value", "letter"]
def t_is_content (M : Md) : TS := (tRet (tAndV (tCB (rIsi M.K) (tCons (tVar 1) (tCons (tC (.ty "str")) tNil))) (tAndV (tOp rEq (tCB rLenZ (tCons (tVar 1) tNil)) (tFld M.K (tVar 0) "size")) (tCB (rAll M.K) (tCons (tLc (iStr (tVar 1)) (gName 2) tYes (tOp rSgIn (tVar 2) (tC (.str "abcdefghijklmnopqrstuvwxyz"))) [2]) tNil)))))
theorem rd_is_content {M : Md} (C : RCls M) {vs : List V} {H : Hp} {Q : VK} {E : XK} (h : sp_is_content M vs H Q E) : t_is_content M { nx := fun _ H' => Q .non H', rt := Q } (start N_is_content vs) H := by
  obtain ⟨x, R, z, rfl, hx, ok, hz, q⟩ := h
  have n12 := ok.n12
  have zl := hz.len
  refine s_ret (P := PB true) ?_ q
  refine Ev.toB (ev_andV (b := true) (c := true) (ev_isi (k := "str") (b := true) (ev_var rfl (.str z)) (by decide +kernel)) fun _ H1 s1 => Ev.toB (ev_andV (b := true) (c := true) ?_ fun _ H2 s2 => ?_) rfl) rfl
  · refine Ev.toB (ev_eq (ev_lenS (ev_slot rfl) (by omega)) (fun H2 s2 => ev_size C (ev_var rfl (hx.kp (Kp.of (s1.trans s2))))) rfl) ?_
    rw [zl]
    exact decide_eq_true rfl
  · have e := ev_all (M := M) (σ := start N_is_content [x, .str z]) (H := H2) (bs := (List.range z.cps.size).map fun _ => true) (te := tLc (iStr (tVar 1)) (gName 2) tYes (tOp rSgIn (tVar 2) (tC (.str "abcdefghijklmnopqrstuvwxyz"))) [2]) ?_
    · rw [all_true] at e
      exact e
    · rw [List.map_map]
      refine ev_lc1 (n := z.cps.size) (e := fun _ => PyData.bool true) (evi_str (M := M) (ev_slot rfl)).toL ?_ (fun _ => rfl) (by have : z.cps.size = z.length := rfl; omega) (fun j y Ha Hb s h => h)
      rintro j y H3 hj s3 ⟨c, hc, rfl⟩
      refine Ev.dB (Ev.toB (ev_sgIn (c := c) (ev_slot rfl) (fun _ _ => ev_c rfl)) (decide_eq_true (az_mem (hz.az c ?_))))
      rw [Array.getElem?_toList.symm] at hc
      exact List.mem_of_getElem? hc
def sp_check_content (M : Md) : Sp := fun vs H Q _ => ∃ x R z, vs = [x, .str z] ∧ IsRing M H x R ∧ R.Ok ∧ Letters R.n z ∧ Pr (PV .non) H Q
abbrev N_check_content : List Str := ["ring", "content"]
def t_check_content (M : Md) : TS := (tIfS (tNot (tB (tCall (sp_is_content M) [] E0 (tCons (tVar 0) (tCons (tVar 1) tNil))))) tNever tNext)
theorem rd_check_content {M : Md} {vs : List V} {H : Hp} {Q : VK} {E : XK} (h : sp_check_content M vs H Q E) : t_check_content M { nx := fun _ H' => Q .non H', rt := Q } (start N_check_content vs) H := by
  obtain ⟨x, R, z, rfl, hx, ok, hz, q⟩ := h
  refine s_no ((eb_not (eb_val (b := true) (fun Q' q' => ?_))).to rfl) fun H1 s1 => q _ _ s1 rfl
  exact ⟨_, rfl, _, rfl, x, R, z, rfl, hx, ok, hz, fun v H' s e => q' v H' s e⟩

/-! ### letters of a mapping -/
/-- the content that a mapping makes of a content -/
def gatS (z : Str) (ns : List Int) : Str := ⟨(ns.map fun i => z.cps.toList.getD i.toNat 0).toArray⟩
theorem joinL_nil : ∀ ps : List (List Nat), TL.joinL [] ps = ps.flatten
  | [] => rfl
  | [p] => by show p = _; simp
  | p :: q :: r => by
    show p ++ ([] ++ TL.joinL [] (q :: r)) = _
    rw [joinL_nil (q :: r), List.nil_append, ← List.flatten_cons]
theorem flat_ones (cs : List Nat) : (cs.map fun c => [c]).flatten = cs := by
  induction cs with
  | nil => rfl
  | cons c cs ih => rw [List.map_cons, List.flatten_cons, ih]; rfl
theorem join_ones (cs : List Nat) : Txt.join ("" : Str) (cs.map fun c => (⟨#[c]⟩ : Str)) = ⟨cs.toArray⟩ := by
  refine TL.ext_tl ?_
  rw [TL.join_eq, TL.tl_join, show TL.tl ("" : Str) = [] from by decide +kernel, joinL_nil, List.map_map]
  show (cs.map fun c => [c]).flatten = cs
  exact flat_ones cs
theorem sum_ones (cs : List Nat) : ((cs.map fun c => (⟨#[c]⟩ : Str)).map (·.length)).sum = cs.length := by
  induction cs with
  | nil => rfl
  | cons c cs ih =>
    rw [List.map_cons, List.map_cons, List.sum_cons, ih, List.length_cons]
    show 1 + cs.length = _
    omega
def sp_letters_of (M : Md) : Sp := fun vs H Q _ => ∃ x ns z, vs = [x, .str z] ∧ Dt M H x (dI ns) ∧ (∀ i ∈ ns, 0 ≤ i ∧ i < z.length) ∧ ns.length ≤ 1000 ∧ z.length ≤ 1000 ∧ Pr (PV (.str (gatS z ns))) H Q
abbrev N_letters_of : List Str := ["mapping", "content", "place"]
def t_letters_of (M : Md) : TS := (tRet (tM1 (rJoin M.K) (tC (.str "")) (tLc (iTup M.K (tVar 0)) (gName 2) tYes (tOp rIxS (tVar 1) (tVar 2)) [2])))
theorem rd_letters_of {M : Md} {vs : List V} {H : Hp} {Q : VK} {E : XK} (h : sp_letters_of M vs H Q E) : t_letters_of M { nx := fun _ H' => Q .non H', rt := Q } (start N_letters_of vs) H := by
  obtain ⟨x, ns, z, rfl, hx, hb, hl, hz, q⟩ := h
  refine s_ret (P := PV (.str (gatS z ns))) ?_ q
  have e := ev_join (M := M) (σ := start N_letters_of [x, .str z]) (H := H) (a := ("" : Str)) (ys := (ns.map fun i => z.cps.toList.getD i.toNat 0).map fun c => (⟨#[c]⟩ : Str)) (ta := tC (.str "")) (tb := tLc (iTup M.K (tVar 0)) (gName 2) tYes (tOp rIxS (tVar 1) (tVar 2)) [2]) (ev_c rfl) (fun H1 s1 => ?_) ?_
  · rw [join_ones] at e
    exact e
  · have e : (List.range ns.length).map (fun i => PyData.str (⟨#[z.cps.toList.getD (ns.getD i 0).toNat 0]⟩ : Str)) = ((ns.map fun i => z.cps.toList.getD i.toNat 0).map fun c => (⟨#[c]⟩ : Str)).map PyData.str := by
      rw [List.map_map, List.map_map]
      refine map_range_get rfl fun i a h => ?_
      rw [List.getD_eq_getElem?_getD (l := ns), h]
      rfl
    rw [← e]
    refine ev_lc1 (n := ns.length) (e := fun i => PyData.str (⟨#[z.cps.toList.getD (ns.getD i 0).toNat 0]⟩ : Str)) (evi_tupI (ev_var rfl (hx.kp (Kp.of s1)))).toL ?_ (fun _ => rfl) (by omega) (fun j y Ha Hb s h => h)
    rintro i y H2 hi s2 ⟨k, hk, rfl⟩
    have hm := hb k (List.mem_of_getElem? hk)
    have hs : z.cps.toList.length = z.length := by simp [Str.length]
    rw [List.getD_eq_getElem?_getD (l := ns), hk, Option.getD_some]
    refine Ev.dS (ev_ixS (ev_slot rfl) (fun _ _ => ev_slot rfl) (by omega) (at_nat hm.1 ?_))
    rw [List.getD_eq_getElem?_getD, List.getElem?_eq_getElem (by omega), Option.getD_some]
  · rw [sum_ones, List.length_map, List.length_map, show ("" : Str).length = 0 from rfl]
    omega

/-! ### effects of rows of instructions -/
def sp_is_pair (M : Md) : Sp := fun vs H Q _ => ∃ x d ds b, vs = [x] ∧ Dt M H x (.tuple (d :: ds)) ∧ kitB (kdD d) "tuple" = some b ∧ Pr (PB b) H Q
abbrev N_is_pair : List Str := ["part"]
def t_is_pair (M : Md) : TS := (tRet (tCB (rIsi M.K) (tCons (tOp (rIxT M.K) (tVar 0) (tC (.int 0))) (tCons (tC (.ty "tuple")) tNil))))
theorem rd_is_pair {M : Md} {vs : List V} {H : Hp} {Q : VK} {E : XK} (h : sp_is_pair M vs H Q E) : t_is_pair M { nx := fun _ H' => Q .non H', rt := Q } (start N_is_pair vs) H := by
  obtain ⟨x, d, ds, b, rfl, hx, hb, q⟩ := h
  refine s_ret (P := PB b) (ev_isi (k := kdD d) ((ev_ix (d := d) (ev_var rfl hx) (fun _ _ => ev_c rfl) (at_nat (by decide) rfl)).imp fun v H' _ p => Dt.kd p) hb) q
theorem kit_int_tup : kitB "int" "tuple" = some false := by decide +kernel
/-- the effect of a row -/
def folS (n : Nat) (m : List Int) (is : List Ins) : List Int := is.foldl (fun (m : List Int) (i : Ins) => stepL (0 : Int) n i m) m
def effL (n : Nat) (is : List Ins) : List Int := folS n (upTo n) is
theorem effL_len {n : Nat} (hn : 2 ≤ n) : ∀ {is : List Ins} {m : List Int}, (∀ i ∈ is, 0 ≤ i.1 ∧ i.1 < n) → m.length = n → (∀ x ∈ m, 0 ≤ x ∧ x < (n : Int)) → (folS n m is).length = n ∧ ∀ x ∈ folS n m is, 0 ≤ x ∧ x < (n : Int)
  | [], m, _, hl, hm => ⟨hl, hm⟩
  | i :: is, m, h, hl, hm => by
    have hi := h i (List.mem_cons_self ..)
    show (folS n (stepL 0 n i m) is).length = n ∧ ∀ x ∈ folS n (stepL 0 n i m) is, 0 ≤ x ∧ x < (n : Int)
    exact effL_len hn (fun j hj => h j (List.mem_cons_of_mem _ hj)) (stepL_len 0 hi.1 hi.2 hl) (stepL_mem hn hl hm)
theorem upTo_mem {n : Nat} : ∀ x ∈ upTo n, 0 ≤ x ∧ x < (n : Int) := fun x hx => by
  unfold upTo at hx
  obtain ⟨i, hi, rfl⟩ := List.mem_map.mp hx
  have := List.mem_range.mp hi
  exact ⟨Int.natCast_nonneg i, Int.ofNat_lt.mpr this⟩
def sp_effect_of (M : Md) : Sp := fun vs H Q _ => ∃ (x y : V) (R : RingD) (is : List Ins), vs = [x, y] ∧ IsRing M H x R ∧ R.Ok ∧ Dt M H y (.tuple (is.map insD)) ∧ (∀ i ∈ is, 0 ≤ i.1 ∧ i.1 < R.n) ∧ Pr (PD M (dI (effL R.n is))) H Q
def sp_joined (M : Md) : Sp := fun vs H Q _ => False
def sp_powered (M : Md) : Sp := fun vs H Q _ => False
abbrev N_effect_of : List Str := ["ring", "program", "found", "part"]
def t_effect_of (M : Md) : TS := (tSeq (tAsg (tCall (sp_identity_of M) [] E0 (tCons (tVar 0) tNil)) (gName 2))
  (tSeq (tFor (iTup M.K (tVar 1)) (gName 3) (tIfS (tB (tCall (sp_is_pair M) [] E0 (tCons (tVar 3) tNil))) tNever (tAsg (tCall (sp_after M) [] E0 (tCons (tVar 2) (tCons (tVar 3) (tCons (tFld M.K (tVar 0) "size") tNil)))) (gName 2))))
  (tRet (tVar 2))))
theorem rd_effect_of {M : Md} (C : RCls M) {vs : List V} {H : Hp} {Q : VK} {E : XK} (h : sp_effect_of M vs H Q E) : t_effect_of M { nx := fun _ H' => Q .non H', rt := Q } (start N_effect_of vs) H := by
  obtain ⟨x, y, R, is, rfl, hx, ok, hy, hi, q⟩ := h
  have n2 := ok.n2
  have n12 := ok.n12
  have e1 : Ev (tCall (sp_identity_of M) [] E0 (tCons (tVar 0) tNil)) (start N_effect_of [x, y]) H (PD M (dI (upTo R.n))) := fun Q' q' => ⟨x, rfl, x, R, rfl, hx, ok, q'⟩
  refine q_set e1 fun v H1 s1 hv => ?_
  refine q_seq ?_
  have hI := evi_tup (M := M) (σ := (start N_effect_of [x, y]).set 2 (some v)) (H := H1) (ts := tVar 1) (ds := is.map insD) (ev_var rfl (hy.kp (Kp.of s1)))
  rw [List.length_map] at hI
  refine s_for (kp := Kp M) hI (fun j σ' Ha Hb => Same Ha Hb ∧ ∃ u c, σ' = [some x, some y, some u, c] ∧ Dt M Hb u (dI (folS R.n (upTo R.n) (is.take j)))) ?_ (fun _ _ _ _ w => Kp.of w.1) ?_ ?_
  · exact fun Ha s => ⟨Same.refl _, v, none, rfl, hv.kp (Kp.of s)⟩
  · intro j z σ' Ha Hb Hc hj sa hW sb hY
    obtain ⟨sw, u, c, e, hu⟩ := hW
    obtain ⟨d, hd, hz⟩ := hY
    subst e
    rw [List.getElem?_map] at hd
    obtain ⟨i, hij, rfl⟩ := Option.map_eq_some_iff.mp hd
    have hib := hi i (List.mem_of_getElem? hij)
    have pre := effL_len n2 (is := is.take j) (m := upTo R.n) (fun i h => hi i (List.mem_of_mem_take h)) (upTo_len _) upTo_mem
    show tIfS _ _ _ _ _ _
    refine s_no (eb_val fun Q' q' => ⟨_, rfl, z, _, _, false, rfl, hz, kit_int_tup, fun v H' s e => q' v H' s e⟩) fun H3 s3 => ?_
    have s03 : Same Ha H3 := (sw.trans sb).trans s3
    refine s_set (P := PD M (dI (folS R.n (upTo R.n) (is.take (j + 1))))) (fun Q' q' => ?_) fun v4 H4 s4 h4 => ⟨s03.trans s4, v4, _, rfl, h4⟩
    refine ⟨_, rfl, _, rfl, ?_⟩
    refine ev_size C (ev_var (P := PR M R) rfl (hx.kp (Kp.of ((s1.trans sa).trans s03)))) _ fun w H5 s5 e5 => ?_
    refine ⟨u, z, _, i, R.n, by rw [show w = V.int (R.n : Nat) from e5]; rfl, hu.kp (Kp.of ((sb.trans s3).trans s5)), hz.kp (Kp.of (s3.trans s5)), by rw [List.length_map]; exact pre.1, n2, n12, hib.1, hib.2, fun v H' s e => q' v H' (s5.trans s) ?_⟩
    have et : is.take (j + 1) = is.take j ++ [i] := by
      rw [List.take_succ, hij]
      rfl
    rw [et, folS, List.foldl_append, List.foldl_cons, List.foldl_nil, dI, stepL_map, stepL_any _ PyData.none n2 i (by rw [List.length_map]; exact pre.1)]
    exact e
  · rintro σ' Ha Hb sa ⟨sw, u, c, rfl, hu⟩
    refine s_end (t := tRet (tVar 2)) rfl (s_ret (P := PD M (dI (effL R.n is))) (ev_var rfl ?_) (q.s ((s1.trans sa).trans sw)))
    rw [List.take_length] at hu
    exact hu
end Crx

set_option maxHeartbeats 4000000
/-! Rd6: texts.py: reading a ring's text. -/
namespace Crx
open PySem PySem.Spec PyProof.Rows L2 RZ

/-! ### words of numbers -/
theorem tl_numS (n : Nat) : TL.tl (numS (n : Int)) = TL.numL n := TL.tl_num n
theorem cps_numS (n : Nat) : (numS (n : Int)).cps.toList = TL.numL n := TL.tl_num n
theorem len_numS (n : Nat) : (numS (n : Int)).length = (TL.numL n).length := by rw [TL.len_tl, tl_numS]
theorem numL_head : ∀ n : Nat, 0 < n → ∀ c, (TL.numL n)[0]? = some c → c ≠ 48 := by
  intro n
  induction n using Nat.strongRecOn with
  | _ n ih =>
    intro h0 c hc
    by_cases h : n < 10
    · rw [TL.numL_lt h] at hc
      cases hc
      omega
    · rw [TL.numL_step (by omega), List.getElem?_append_left (by have := List.length_pos_iff.mpr (TL.numL_ne (n / 10)); omega)] at hc
      exact ih (n / 10) (by omega) (by omega) c hc
theorem digit_all : ("0123456789" : Str).cps.toList = (List.range 10).map (· + 48) := by decide +kernel
theorem digit_mem {c : Nat} (h : 48 ≤ c ∧ c ≤ 57) : c ∈ ("0123456789" : Str).cps.toList := by
  rw [digit_all]
  exact List.mem_map.mpr ⟨c - 48, List.mem_range.mpr (by omega), by omega⟩
theorem numL_dig {n c : Nat} (h : c ∈ TL.numL n) : 48 ≤ c ∧ c ≤ 57 := TL.numL_digits n c h
theorem numS_zero : numS (0 : Nat) = ("0" : Str) := by decide +kernel
theorem cutS_all (z : Str) : cutS z (some ((0 : Nat) : Int)) (some ((z.length : Nat) : Int)) = z := by
  unfold cutS
  rw [HT.sIx_nat, HT.sIx_nat, Nat.zero_min, Nat.min_self, List.drop_zero, Nat.sub_zero, List.take_of_length_le (by simp [Str.length])]
def sp_read_number (M : Md) : Sp := fun vs H Q _ => ∃ n : Nat, vs = [.str (numS (n : Int)), .int 0] ∧ n < 1000000 ∧ Pr (PD M (.tuple [.int (n : Int), .int ((numS (n : Int)).length : Nat)])) H Q
abbrev N_read_number : List Str := ["text", "start", "end", "digits"]
def t_read_number (M : Md) : TS := (tSeq (tAsg (tVar 1) (gName 2))
  (tSeq (tWhile (tAnd (tTest (tOp rLt (tVar 2) (tCB rLenZ (tCons (tVar 0) tNil)))) (tTest (tOp rSgIn (tOp rIxS (tVar 0) (tVar 2)) (tC (.str "0123456789"))))) (tAug 2 (tC (.int 1)) (ipI fun i j => i + j)))
  (tSeq (tAsg (tSl rSlS (tVar 0) (tPart (tVar 1)) (tPart (tVar 2))) (gName 3))
  (tSeq (tIfS (tOr (tNot (tTest (tChain rLe rLe (tC (.int 1)) (tCB rLenZ (tCons (tVar 3) tNil)) (tC (.int 31))))) (tAnd (tTest (tOp rNe (tVar 3) (tC (.str "0")))) (tTest (tOp rEq (tOp rIxS (tVar 3) (tC (.int 0))) (tC (.str "0")))))) (tRet (tTup (tCons (tC .non) (tCons (tVar 2) tNil)))) tNext)
  (tRet (tTup (tCons (tCB rIntS (tCons (tVar 3) tNil)) (tCons (tVar 2) tNil))))))))
theorem rd_read_number {M : Md} {vs : List V} {H : Hp} {Q : VK} {E : XK} (h : sp_read_number M vs H Q E) : t_read_number M { nx := fun _ H' => Q .non H', rt := Q } (start N_read_number vs) H := by
  obtain ⟨n, rfl, hn, q⟩ := h
  have hl : (numS (n : Int)).length ≤ 6 := numS_len (Int.natCast_nonneg n) (by decide) (by omega)
  have hz : (numS (n : Int)).cps.toList.length = (numS (n : Int)).length := by simp [Str.length]
  have hp : 1 ≤ (numS (n : Int)).length := by
    rw [len_numS]
    exact List.length_pos_iff.mpr (TL.numL_ne n)
  generalize hZ : numS (n : Int) = Z at hl hz hp q ⊢
  have hdig : ∀ k, k < Z.length → ∃ c, Z.cps.toList[k]? = some c ∧ c ∈ ("0123456789" : Str).cps.toList := fun k hk => by
    refine ⟨_, List.getElem?_eq_getElem (by omega), digit_mem (numL_dig (n := n) ?_)⟩
    rw [← cps_numS, hZ]
    exact List.getElem_mem _
  have hhead : ∀ c, Z.cps.toList[0]? = some c → Z ≠ "0" → c ≠ 48 := fun c hc h0 => by
    refine numL_head n ?_ c (by rw [← cps_numS, hZ]; exact hc)
    rcases Nat.eq_zero_or_pos n with e | e
    · subst e
      exact absurd (hZ.symm.trans numS_zero) h0
    · exact e
  refine q_set (P := PI 0) (ev_slot rfl) fun v H1 s1 hv => ?_
  obtain rfl : v = .int 0 := hv
  refine q_seq ?_
  refine ⟨fun m σ' H' => ∃ k : Nat, m = Z.length - k ∧ k ≤ Z.length ∧ Same H1 H' ∧ σ' = [some (.str Z), some (.int 0), some (.int (k : Nat)), none], ⟨_, 0, rfl, Nat.zero_le _, Same.refl _, rfl⟩, ?_⟩
  rintro m σ' H' ⟨k, rfl, hk, sw, rfl⟩
  have hlt : EvB (tTest (tOp rLt (tVar 2) (tCB rLenZ (tCons (tVar 0) tNil)))) [some (.str Z), some (.int 0), some (.int (k : Nat)), none] H' (decide ((k : Int) < (Z.length : Nat))) :=
    eb_test (ev_i0 (g := fun i j => .bl (decide (i < j))) (ev_slot rfl) fun _ _ => ev_lenS (ev_slot rfl) (by omega))
  by_cases hkl : k < Z.length
  · have tt : EvB (tAnd (tTest (tOp rLt (tVar 2) (tCB rLenZ (tCons (tVar 0) tNil)))) (tTest (tOp rSgIn (tOp rIxS (tVar 0) (tVar 2)) (tC (.str "0123456789"))))) [some (.str Z), some (.int 0), some (.int (k : Nat)), none] H' true := by
      obtain ⟨c, hc, hm⟩ := hdig k hkl
      refine (eb_and (c := true) (hlt.to (decide_eq_true (by omega))) fun _ H2 s2 => eb_test (Ev.toB (ev_sgIn (c := c) (ev_ixS (ev_slot rfl) (fun _ _ => ev_slot rfl) (by omega) (at_nat (Int.natCast_nonneg k) hc)) (fun _ _ => ev_c rfl)) (decide_eq_true hm))).to rfl
    refine tt _ fun H2 s2 => ?_
    rw [if_pos rfl]
    refine ⟨fun σ3 H3 => ∃ k' : Nat, k' = k + 1 ∧ Same H1 H3 ∧ σ3 = [some (.str Z), some (.int 0), some (.int (k' : Nat)), none], fun σ3 H3 ⟨k', e, s3, e3⟩ => ⟨_, by omega, k', rfl, by omega, s3, e3⟩, ?_⟩
    exact ⟨_, rfl, _, _, rfl, rfl, k + 1, rfl, sw.trans s2, rfl⟩
  · have hk' : k = Z.length := by omega
    subst hk'
    have tf : EvB (tAnd (tTest (tOp rLt (tVar 2) (tCB rLenZ (tCons (tVar 0) tNil)))) (tTest (tOp rSgIn (tOp rIxS (tVar 0) (tVar 2)) (tC (.str "0123456789"))))) [some (.str Z), some (.int 0), some (.int (Z.length : Nat)), none] H' false :=
      (eb_and (b := false) (c := false) (hlt.to (decide_eq_false (by omega))) fun z => nomatch z).to rfl
    refine tf _ fun H2 s2 => ?_
    rw [if_neg Bool.false_ne_true]
    have s12 : Same H H2 := s1.trans (sw.trans s2)
    show tSeq (tAsg (tSl rSlS (tVar 0) (tPart (tVar 1)) (tPart (tVar 2))) (gName 3)) _ { nx := fun _ H' => Q .non H', rt := Q } _ _
    refine q_set (P := PV (.str Z)) ?_ fun v H3 s3 hv => ?_
    · have e := ev_slS (σ := [some (.str Z), some (.int 0), some (.int (Z.length : Nat)), none]) (H := H2) (ta := tVar 0) (z := Z) (lo := some ((0 : Nat) : Int)) (hi := some ((Z.length : Nat) : Int)) (tl := tPart (tVar 1)) (th := tPart (tVar 2)) (ev_slot rfl) (fun _ _ => ep_some (ev_slot rfl)) (fun _ _ => ep_some (ev_slot rfl)) (by omega)
      rw [cutS_all] at e
      exact e
    obtain rfl : v = .str Z := hv
    refine q_no ?_ fun H4 s4 => ?_
    · refine (eb_or (b := false) (c := false) ((eb_not (b := true) (eb_test (Ev.toB (ev_chain (p1 := fun i j => decide (i ≤ j)) (p2 := fun i j => decide (i ≤ j)) (ev_c rfl) (fun _ _ => ev_lenS (ev_slot rfl) (by omega)) (fun _ _ => ev_c rfl)) ?_))).to rfl) fun _ H5 s5 => ?_).to rfl
      · rw [decide_eq_true (by omega), decide_eq_true (by omega)]
        rfl
      · refine (eb_and (b := !decide (V.str Z = V.str "0")) (c := !decide (V.str Z = V.str "0") && false) (eb_test (ev_ne (ev_slot rfl) (fun _ _ => ev_c rfl) rfl)) fun hne H6 s6 => ?_).to (by simp)
        obtain ⟨c, hc, hm⟩ := hdig 0 (by omega)
        have h0 : Z ≠ "0" := fun e => by rw [e] at hne; simp at hne
        refine eb_test (Ev.toB (ev_eq (ev_ixS (ev_slot rfl) (fun _ _ => ev_c rfl) (by omega) (at_nat (by decide) hc)) (fun _ _ => ev_c rfl) rfl) ?_)
        rw [hne, Bool.true_and]
        refine decide_eq_false fun e => hhead c hc h0 ?_
        have e2 : (⟨#[c]⟩ : Str) = "0" := V.str.inj e
        have e3 : (⟨#[c]⟩ : Str).cps.toList = ("0" : Str).cps.toList := by rw [e2]
        rw [show ("0" : Str).cps.toList = [48] from by decide +kernel] at e3
        exact List.head_eq_of_cons_eq e3
    · refine s_ret (P := PD M (.tuple [.int (n : Int), .int (Z.length : Nat)])) (ev_tup (ea1 (.dI fun Q' q' => ?_) fun _ _ => ea1 (.dI (ev_slot rfl)) fun _ _ => ea0) (by show 2 ≤ 1000000; omega)) (q.s (s12.trans (s3.trans s4)))
      refine ⟨_, rfl, Z, n, rfl, ?_, by omega, q' _ H4 (Same.refl _) rfl⟩
      rw [← hZ]
      exact TL.int_num (by rw [← len_numS, hZ]; omega)
end Crx

set_option maxHeartbeats 4000000
/-! Rd7: texts.py: a ring's text is read back. -/
namespace Crx
open PySem PySem.Spec PyProof.Rows L2 RZ

section
variable {M : Md} {σ : L2.St} {H : Hp} {ta tb tl tw tp te : TE}
/-- not None -/
theorem ev_isnt {x : V} {b : Bool} (h : Ev te σ H (PV x)) (e : (!decide (x = V.non)) = b) : Ev (tOp rNotNone te (tC .non)) σ H (PB b) := (ev_notN h).toB e
end
/-- x = [] -/
theorem s_newL {σ : L2.St} {H : Hp} {i : Nat} {D : Ends} (k : ∀ p, H p = none → D.nx (σ.set i (some (.ref p))) (upd H p (.lst []))) : tAsg (tLst tNil) (gName i) D σ H := ⟨Nat.zero_le _, k⟩
/-! ### numbers_of -/
def Small (ns : List Int) : Prop := ∀ i ∈ ns, 0 ≤ i ∧ i < 1000000
def sp_numbers_of (M : Md) : Sp := fun vs H Q _ => ∃ (a : Addr) (ns : List Int), vs = [.ref a] ∧ LstAt M H a ((ns.map numS).map PyData.str) ∧ Small ns ∧ ns.length ≤ 1000 ∧ Pr (PD M (dI ns)) H Q
abbrev N_numbers_of : List Str := ["words", "found", "word", "number", "end"]
def t_numbers_of (M : Md) : TS := (tSeq (tAsg (tLst tNil) (gName 1))
  (tSeq (tFor (iList M.K (tVar 0)) (gName 2) (tSeq (tAsg (tCall (sp_read_number M) [] E0 (tCons (tVar 2) (tCons (tC (.int 0)) tNil))) (gTup M.K 2 (gCons (gName 3) (gCons (gName 4) gNil))))
  (tDrop (tBM M.K "list" rAppend (tVar 1) (tCons (tIf (tAnd (tTest (tOp rNotNone (tVar 3) (tC .non))) (tTest (tOp rEq (tVar 4) (tCB rLenZ (tCons (tVar 2) tNil))))) (tVar 3) (tUn (rU fun i => .int (-i)) (tC (.int 1)))) tNil)))))
  (tRet (tCB (rTupOf M.K) (tCons (tVar 1) tNil)))))
theorem rd_numbers_of {M : Md} {vs : List V} {H : Hp} {Q : VK} {E : XK} (h : sp_numbers_of M vs H Q E) : t_numbers_of M { nx := fun _ H' => Q .non H', rt := Q } (start N_numbers_of vs) H := by
  obtain ⟨a, ns, rfl, ha, hs, hl, q⟩ := h
  refine q_seq (s_newL fun p hp => ?_)
  have hap : a ≠ p := fun e => by
    obtain ⟨xs, h1, _⟩ := ha
    rw [e, hp] at h1
    cases h1
  have s1 : Same H (upd H p (.lst [])) := same_new hp
  refine q_seq ?_
  have hW := evw_list (M := M) (σ := (start N_numbers_of [.ref a]).set 1 (some (.ref p))) (i := 0) (p := p) rfl (ha.s s1) hap
  rw [List.length_map, List.length_map] at hW
  refine s_for hW (fun j σ' Ha Hb => To p Ha Hb ∧ (∃ zs, Ha p = some (.lst zs)) ∧ ∃ u v w, σ' = [some (.ref a), some (.ref p), u, v, w] ∧ Hb p = some (.lst ((ns.take j).map V.int))) ?_ ?_ ?_ ?_
  · exact fun Ha s => ⟨To.refl, ⟨_, s _ _ upd_same⟩, none, none, none, rfl, s _ _ upd_same⟩
  · rintro j σ' Ha Hb ⟨t, ⟨zs, hz⟩, _⟩
    exact ⟨t, t.kp hz⟩
  · intro j z σ' Ha Hb Hc hj sa w sb y
    obtain ⟨t, hz, u, v, w, e, hb⟩ := w
    subst e
    obtain ⟨d, hd, hzd⟩ := y
    rw [List.map_map, List.getElem?_map] at hd
    obtain ⟨i, hi, rfl⟩ := Option.map_eq_some_iff.mp hd
    cases hzd
    obtain ⟨i0, i1⟩ := hs i (List.mem_of_getElem? hi)
    obtain ⟨n, rfl⟩ := Int.eq_ofNat_of_zero_le i0
    have hn : n < 1000000 := by omega
    show tSeq (tAsg _ (gTup M.K 2 (gCons (gName 3) (gCons (gName 4) gNil)))) _ _ _ _
    refine q_un2 (M := M) (d := .int (n : Int)) (e := .int ((numS (n : Int)).length : Nat)) (fun Q' q' => ⟨_, rfl, n, rfl, hn, q'⟩) fun v3 v4 H3 s3 h3 h4 => ?_
    cases h3
    cases h4
    have hb3 : H3 p = some (.lst ((ns.take j).map V.int)) := s3 _ _ (sb _ _ hb)
    have tk : ns.take (j + 1) = ns.take j ++ [(n : Int)] := by
      rw [List.take_succ, hi]
      rfl
    refine s_app (P := PI (n : Int)) rfl hb3 (by rw [List.length_map, List.length_take]; omega) ?_ fun v H4 s4 hv => ?_
    · refine ev_if (b := true) ((eb_and (b := true) (c := true) (eb_test (ev_isnt (ev_slot rfl) rfl)) fun _ H5 s5 => eb_test (Ev.toB (ev_eq (ev_slot rfl) (fun _ _ => ev_lenS (ev_slot rfl) ?_) rfl) (decide_eq_true rfl))).to rfl) (fun _ _ _ => ev_slot rfl) fun z => nomatch z
      have := numS_len (i := (n : Int)) (by omega) (k := 6) (by decide) (by omega)
      omega
    · obtain rfl : v = .int (n : Int) := hv
      have tt : To p Ha H4 := (t.trans (To.of (sb.trans s3))).trans (To.of s4)
      refine ⟨fun b o hb e => To.app b o hb (tt b o hb e), hz, _, _, _, rfl, ?_⟩
      rw [upd_same, tk, List.map_append]
      rfl
  · rintro σ' Ha Hb sa ⟨t, ⟨zs, hz⟩, u, v, w, rfl, hb⟩
    rw [List.take_length] at hb
    have hkeep : ∀ b o, H b = some o → Hb b = some o := fun b o e => t b o (fun z => by rw [z, hp] at e; cases e) (sa _ _ (s1 _ _ e))
    exact s_end (t := tRet (tCB (rTupOf M.K) (tCons (tVar 1) tNil))) rfl (s_ret (P := PD M (dI ns)) (ev_tupL (ev_var rfl ⟨p, _, rfl, hb, .ints ns⟩)) (q.s hkeep))
/-- numbers_of(a list of texts of numbers) -/
theorem ev_numbers {M : Md} {σ : L2.St} {H : Hp} {te : TE} {ns : List Int} (h : Ev te σ H (PL M ((ns.map numS).map PyData.str))) (hs : Small ns) (hl : ns.length ≤ 1000) : Ev (tCall (sp_numbers_of M) [] E0 (tCons te tNil)) σ H (PD M (dI ns)) := fun Q q =>
  h _ fun x H1 s1 p1 => by
    obtain ⟨a, xs, rfl, h1, h2⟩ := p1
    exact ⟨a, ns, rfl, ⟨xs, h1, h2⟩, hs, hl, (show Pr _ H Q from q).s s1⟩

/-! ### a ring is made -/
def mk_Ring_1_locks_walls_prices_g (M : Md) : List V → List V → List V := fun vs zs => [vs.getD 0 .non, vs.getD 1 .non, zs.getD 0 .non, zs.getD 1 .non, zs.getD 2 .non]
section
variable {M : Md} {σ : L2.St} {H : Hp} {ta tb tl tw tp te : TE} {n : Nat} {l w p : List Int}
theorem ev_mkRing13 (ha : Ev ta σ H (PI (n : Int))) (hl : ∀ H1, Same H H1 → Ev tl σ H1 (PD M (dI l))) (hw : ∀ H1, Same H H1 → Ev tw σ H1 (PD M (dI w))) (hp : ∀ H1, Same H H1 → Ev tp σ H1 (PD M (dI p))) (A : RingArgs n l w p) :
    Ev (tMakeK M.ring 1 3 (sp_Ring_init M) (mk_Ring_1_locks_walls_prices_g M) E0 (tCons ta tNil) (tCons tl (tCons tw (tCons tp tNil)))) σ H (PR M (mkRing n l w p)) := fun Q q =>
  ha _ fun x H1 s1 p1 => hl H1 s1 _ fun xl H2 s2 p2 => hw H2 (s1.trans s2) _ fun xw H3 s3 p3 => hp H3 ((s1.trans s2).trans s3) _ fun xp H4 s4 p4 => by
    obtain rfl : x = .int n := p1
    have s14 : Same H H4 := ((s1.trans s2).trans s3).trans s4
    refine ⟨rfl, rfl, fun a dx ha hdx hne => ?_⟩
    have sn : Same H4 (upd (upd H4 dx (.own a)) a (.ins M.ring dx [])) := same_mut (same_new hdx) ha
    refine ⟨a, dx, xl, xw, xp, n, l, w, p, rfl, upd_same, p2.kp (Kp.of ((s3.trans s4).trans sn)), p3.kp (Kp.of (s4.trans sn)), p4.kp (Kp.of sn), A, fun H' hk hr => ⟨rfl, q _ H' (fun b o e => ?_) hr⟩⟩
    exact hk b o (fun z => by rw [z] at e; have := s14 _ _ e; rw [ha] at this; cases this) (sn _ _ (s14 _ _ e))
end
end Crx

set_option maxHeartbeats 4000000
/-! Rd8: texts.py: read_ring, parse_ring. -/
namespace Crx
open PySem PySem.Spec PyProof.Rows L2 RZ

/-! ### words -/
theorem tl_words : TL.tl ("ring" : Str) = [114, 105, 110, 103] ∧ TL.tl ("locks" : Str) = [108, 111, 99, 107, 115] ∧ TL.tl ("walls" : Str) = [119, 97, 108, 108, 115] ∧ TL.tl ("prices" : Str) = [112, 114, 105, 99, 101, 115] ∧ TL.tl (" " : Str) = [32] := by decide +kernel
theorem num_not {i : Int} (h : 0 ≤ i) {a : Str} {c : Nat} {r : List Nat} (e : TL.tl a = c :: r) (hc : c < 48 ∨ 57 < c) : numS i ≠ a := fun z => by
  obtain ⟨n, rfl⟩ := Int.eq_ofNat_of_zero_le h
  have e2 : TL.numL n = c :: r := by rw [← tl_numS, z, e]
  exact TL.numL_free (n := n) hc (by rw [e2]; exact List.mem_cons_self ..)
theorem nums_not {ns : List Int} (h : ∀ i ∈ ns, 0 ≤ i) {a : Str} {c : Nat} {r : List Nat} (e : TL.tl a = c :: r) (hc : c < 48 ∨ 57 < c) : a ∉ ns.map numS := fun z => by
  obtain ⟨i, hi, rfl⟩ := List.mem_map.mp z
  exact num_not (h i hi) e hc rfl
theorem num_free {i : Int} (h : 0 ≤ i) {c : Nat} (hc : c < 48 ∨ 57 < c) : c ∉ TL.tl (numS i) := by
  obtain ⟨n, rfl⟩ := Int.eq_ofNat_of_zero_le h
  rw [tl_numS]
  exact TL.numL_free hc
theorem RingD.Ok.price {R : RingD} (h : R.Ok) : ∀ i ∈ R.prices, 0 ≤ i := fun i hi => by have := h.pr i hi; omega
theorem split_ring {R : RingD} (h : R.Ok) : Txt.split (ringText R) (" " : Str) = ringWords R := by
  obtain ⟨e1, e2, e3, e4, e5⟩ := tl_words
  unfold ringText
  refine TL.split_join (s := 32) (S := []) e5 (by decide +kernel) (by unfold ringWords; simp) fun p hp => ?_
  unfold ringWords at hp
  simp only [List.mem_append, List.mem_cons, List.not_mem_nil, or_false] at hp
  have hm : ∀ {ns : List Int}, (∀ i ∈ ns, 0 ≤ i) → p ∈ ns.map numS → 32 ∉ TL.tl p := fun hn z => by
    obtain ⟨i, hi, rfl⟩ := List.mem_map.mp z
    exact num_free (hn i hi) (.inl (by decide))
  rcases hp with (((((rfl | rfl | rfl) | hp) | rfl) | hp) | rfl) | hp
  · rw [e1]; decide
  · exact num_free (by omega) (.inl (by decide))
  · rw [e2]; decide
  · exact hm (fun i hi => (h.lock i hi).1) hp
  · rw [e3]; decide
  · exact hm (fun i hi => (h.wall i hi).1) hp
  · rw [e4]; decide
  · exact hm h.price hp
theorem words_ne : ¬ (("ring" : Str) = "locks") ∧ ¬ (("ring" : Str) = "walls") ∧ ¬ (("ring" : Str) = "prices") ∧ ¬ (("locks" : Str) = "walls") ∧ ¬ (("locks" : Str) = "prices") ∧ ¬ (("walls" : Str) = "prices") ∧ ¬ (("walls" : Str) = "locks") ∧ ¬ (("prices" : Str) = "locks") ∧ ¬ (("prices" : Str) = "walls") := by decide +kernel
theorem count_words {R : RingD} (h : R.Ok) : (ringWords R).count ("locks" : Str) = 1 ∧ (ringWords R).count ("walls" : Str) = 1 ∧ (ringWords R).count ("prices" : Str) = 1 := by
  obtain ⟨e1, e2, e3, e4, e5⟩ := tl_words
  obtain ⟨n1, n2, n3, n4, n5, n6, n7, n8, n9⟩ := words_ne
  have hl : ∀ {a : Str} {c : Nat} {r : List Nat}, TL.tl a = c :: r → c < 48 ∨ 57 < c → (R.locks.map numS).count a = 0 ∧ (R.walls.map numS).count a = 0 ∧ (R.prices.map numS).count a = 0 ∧ ¬ numS R.n = a := fun e hc =>
    ⟨List.count_eq_zero.mpr (nums_not (fun i hi => (h.lock i hi).1) e hc), List.count_eq_zero.mpr (nums_not (fun i hi => (h.wall i hi).1) e hc), List.count_eq_zero.mpr (nums_not h.price e hc), num_not (by omega) e hc⟩
  obtain ⟨a1, a2, a3, a4⟩ := hl e2 (.inr (by decide))
  obtain ⟨b1, b2, b3, b4⟩ := hl e3 (.inr (by decide))
  obtain ⟨c1, c2, c3, c4⟩ := hl e4 (.inr (by decide))
  unfold ringWords
  refine ⟨?_, ?_, ?_⟩
  · simp [List.count_append, List.count_cons, a1, a2, a3, a4, n1, n7, n8]
  · simp [List.count_append, List.count_cons, b1, b2, b3, b4, n2, n4, n9]
  · simp [List.count_append, List.count_cons, c1, c2, c3, c4, n3, n5, n6]
/-- a word's first place -/
theorem first_at {α : Type} (A : List α) (a : α) (B : List α) (h : a ∉ A) : (A ++ a :: B)[A.length]? = some a ∧ ∀ m b, m < A.length → (A ++ a :: B)[m]? = some b → b ≠ a := by
  refine ⟨by rw [List.getElem?_append_right (Nat.le_refl _), Nat.sub_self]; rfl, fun m b hm hb e => ?_⟩
  rw [List.getElem?_append_left hm] at hb
  exact h (e ▸ List.mem_of_getElem? hb)
theorem cut_mid (A B C : List PyData) {i j : Nat} (hi : i = A.length) (hj : j = A.length + B.length) : cutD (A ++ (B ++ C)) (some (i : Int)) (some (j : Int)) = B := by
  subst hi hj
  unfold cutD
  rw [HT.sIx_nat, HT.sIx_nat, List.length_append, List.length_append, Nat.min_eq_left (by omega), Nat.min_eq_left (by omega), List.drop_left, show A.length + B.length - A.length = B.length from by omega, List.take_left]
theorem cut_tail (A B : List PyData) {i : Nat} (hi : i = A.length) : cutD (A ++ B) (some (i : Int)) none = B := by
  subst hi
  rw [cut_from _ (by rw [List.length_append]; omega), List.drop_left]

section
variable {σ : L2.St} {H : Hp} {ta tb tc : TE} {i j l : Nat} {x y z : V}
theorem q_par3 {t : TS} {D : Ends} (ha : Ev ta σ H (PV x)) (hb : ∀ H1, Same H H1 → Ev tb σ H1 (PV y)) (hc : ∀ H1, Same H H1 → Ev tc σ H1 (PV z)) (k : ∀ H', Same H H' → t D (((σ.set i (some x)).set j (some y)).set l (some z)) H') :
    tSeq (tPar3 i j l (tCons ta (tCons tb (tCons tc tNil)))) t D σ H :=
  ha _ fun x' H1 s1 e1 => hb H1 s1 _ fun y' H2 s2 e2 => hc H2 (s1.trans s2) _ fun z' H3 s3 e3 => ⟨x', y', z', rfl, by
    rw [show x' = x from e1, show y' = y from e2, show z' = z from e3]
    exact k H3 ((s1.trans s2).trans s3)⟩
end

theorem RingD.Ok.args {R : RingD} (h : R.Ok) : RingArgs R.n R.locks R.walls R.prices := ⟨h.n2, h.n12, h.lk, h.wl, .inr ⟨h.pl, h.pr⟩⟩
theorem RingD.Ok.same {R : RingD} (h : R.Ok) : mkRing R.n R.locks R.walls R.prices = R := by
  unfold mkRing pricesOf
  rw [if_neg (fun e => by have := h.pl; have := h.n2; rw [e] at *; simp at *; omega)]
def sp_read_ring (M : Md) : Sp := fun vs H Q _ => ∃ R, vs = [.str (ringText R)] ∧ R.Ok ∧ Pr (PR M R) H Q
abbrev N_read_ring : List Str := ["text", "words", "word", "first", "second", "third", "size", "prices"]
def t_read_ring (M : Md) : TS := (tSeq (tAsg (tM1 rSplit (tVar 0) (tC (.str " "))) (gName 1))
  (tSeq (tIfS (tOr (tTest (tOp rNe (tOp (rIxL M.K) (tVar 1) (tC (.int 0))) (tC (.str "ring")))) (tTest (tOp (rNeD M.K) (tLc (iTup M.K (tTup (tCons (tC (.str "locks")) (tCons (tC (.str "walls")) (tCons (tC (.str "prices")) tNil))))) (gName 2) tYes (tBM M.K "list" (rCountV M.K) (tVar 1) (tCons (tVar 2) tNil)) [2]) (tLst (tCons (tC (.int 1)) (tCons (tC (.int 1)) (tCons (tC (.int 1)) tNil))))))) tNever tNext)
  (tSeq (tPar3 3 4 5 (tCons (tBM M.K "list" (rIndex M.K) (tVar 1) (tCons (tC (.str "locks")) tNil)) (tCons (tBM M.K "list" (rIndex M.K) (tVar 1) (tCons (tC (.str "walls")) tNil)) (tCons (tBM M.K "list" (rIndex M.K) (tVar 1) (tCons (tC (.str "prices")) tNil)) tNil))))
  (tSeq (tIfS (tNot (tTest (tChain3 rEq rLt rLt (tC (.int 2)) (tVar 3) (tVar 4) (tVar 5)))) tNever tNext)
  (tSeq (tPar 6 7 (tCons (tOp (rIxT M.K) (tCall (sp_numbers_of M) [] E0 (tCons (tSl (rSlL M.K) (tVar 1) (tPart (tC (.int 1))) (tPart (tC (.int 2)))) tNil)) (tC (.int 0))) (tCons (tCall (sp_numbers_of M) [] E0 (tCons (tSl (rSlL M.K) (tVar 1) (tPart (tOp rAddI (tVar 5) (tC (.int 1)))) tNoPart) tNil)) tNil)))
  (tRet (tMakeK M.ring 1 3 (sp_Ring_init M) (mk_Ring_1_locks_walls_prices_g M) E0 (tCons (tVar 6) tNil) (tCons (tCall (sp_numbers_of M) [] E0 (tCons (tSl (rSlL M.K) (tVar 1) (tPart (tC (.int 3))) (tPart (tVar 4))) tNil)) (tCons (tCall (sp_numbers_of M) [] E0 (tCons (tSl (rSlL M.K) (tVar 1) (tPart (tOp rAddI (tVar 4) (tC (.int 1)))) (tPart (tVar 5))) tNil)) (tCons (tVar 7) tNil))))))))))
theorem joinL_len (S : List Nat) : ∀ ps : List (List Nat), (TL.joinL S ps).length ≤ (ps.map (·.length)).sum + ps.length * S.length
  | [] => Nat.zero_le _
  | [p] => by
    show p.length ≤ _
    simp
  | p :: q :: r => by
    show (p ++ (S ++ TL.joinL S (q :: r))).length ≤ _
    have ih := joinL_len S (q :: r)
    rw [List.map_cons, List.sum_cons, List.length_append, List.length_append, List.length_cons, Nat.add_mul]
    omega
theorem text_len {R : RingD} (h : R.Ok) : (ringText R).length ≤ 1000 := by
  have b := ringWords_bound h
  unfold ringText
  rw [TL.len_tl, TL.join_eq, TL.tl_join]
  have l := joinL_len (TL.tl (" " : Str)) ((ringWords R).map TL.tl)
  rw [List.map_map, List.length_map] at l
  have e : (fun x : List Nat => x.length) ∘ TL.tl = fun x : Str => x.length := by
    funext x
    exact (TL.len_tl x).symm
  rw [e, ← TL.len_tl] at l
  omega
theorem eb_chain3 {σ : L2.St} {H : Hp} {ta tb tc td : TE} {i k l : Int} (ha : Ev ta σ H (PI i)) (hb : ∀ H1, Same H H1 → Ev tb σ H1 (PI i)) (hc : ∀ H1, Same H H1 → Ev tc σ H1 (PI k)) (hd : ∀ H1, Same H H1 → Ev td σ H1 (PI l)) (h1 : i < k) (h2 : k < l) :
    EvB (tTest (tChain3 rEq rLt rLt ta tb tc td)) σ H true := fun Q q =>
  ha _ fun x H1 s1 e1 => hb H1 s1 _ fun y H2 s2 e2 => by
    obtain rfl : x = .int i := e1
    obtain rfl : y = .int i := e2
    refine ⟨rfl, true, by rw [decide_eq_true rfl], ?_⟩
    rw [if_pos rfl]
    refine hc H2 (s1.trans s2) _ fun u H3 s3 e3 => ?_
    obtain rfl : u = .int k := e3
    refine ⟨i, k, rfl, rfl, true, congrArg V.bl (decide_eq_true h1), ?_⟩
    rw [if_pos rfl]
    refine hd H3 ((s1.trans s2).trans s3) _ fun v H4 s4 e4 => ?_
    obtain rfl : v = .int l := e4
    refine ⟨k, l, rfl, rfl, true, congrArg V.bl (decide_eq_true h2), q H4 (((s1.trans s2).trans s3).trans s4)⟩
theorem rd_read_ring {M : Md} {vs : List V} {H : Hp} {Q : VK} {E : XK} (h : sp_read_ring M vs H Q E) : t_read_ring M { nx := fun _ H' => Q .non H', rt := Q } (start N_read_ring vs) H := by
  obtain ⟨R, rfl, ok, q⟩ := h
  have n12 := ok.n12
  have l1 := ok.ll
  have l2 := ok.wl'
  have l3 := ok.pl
  obtain ⟨k1, k2, k3⟩ := count_words ok
  obtain ⟨e1, e2, e3, e4, e5⟩ := tl_words
  obtain ⟨n1, n2, n3, n4, n5, n6, n7, n8, n9⟩ := words_ne
  have hsp := split_ring ok
  -- the words
  have ew : Ev (tM1 rSplit (tVar 0) (tC (.str " "))) (start N_read_ring [.str (ringText R)]) H (PL M ((ringWords R).map PyData.str)) := fun Q' q' => by
    refine ⟨_, rfl, ⟨_, rfl⟩, ringText R, " ", rfl, rfl, by decide +kernel, ?_, fun p hp => ?_⟩
    · have := text_len ok
      exact Nat.le_trans (Nat.add_le_add_right this 2) (by decide)
    · rw [hsp]
      exact q' _ _ (same_new hp) ⟨p, _, rfl, upd_same, .strs _⟩
  refine q_set ew fun v H1 s1 hv => ?_
  obtain ⟨a, xs, rfl, ha, hd⟩ := hv
  have lw : LstAt M H1 a ((ringWords R).map PyData.str) := ⟨xs, ha, hd⟩
  have kw : ∀ {σ : L2.St} {H2 : Hp}, σ[1]? = some (some (.ref a)) → Same H1 H2 → Ev (tVar 1) σ H2 (PL M ((ringWords R).map PyData.str)) := fun e s => ev_lstAt e (lw.s s)
  -- the tests do not hold
  refine q_no ((eb_or (b := false) (c := false) (eb_test (Ev.toB (ev_ne (x := .str "ring") (y := .str "ring") (Ev.sD (ev_ixL (kw rfl (Same.refl _)) (fun _ _ => ev_c rfl) (at_nat (by decide) rfl))) (fun _ _ => ev_c rfl) rfl) (by simp))) fun _ H2 s2 => eb_test ?_).to rfl) fun H2 s2 => ?_
  · have e := ev_neD (M := M) (σ := (start N_read_ring [.str (ringText R)]).set 1 (some (.ref a))) (H := H2) (d := .list ([(1 : Int), 1, 1].map PyData.int)) (e := .list ([(1 : Int), 1, 1].map PyData.int)) (ta := tLc (iTup M.K (tTup (tCons (tC (.str "locks")) (tCons (tC (.str "walls")) (tCons (tC (.str "prices")) tNil))))) (gName 2) tYes (tBM M.K "list" (rCountV M.K) (tVar 1) (tCons (tVar 2) tNil)) [2])
      (tb := tLst (tCons (tC (.int 1)) (tCons (tC (.int 1)) (tCons (tC (.int 1)) tNil)))) ?_ (fun H3 s3 => (ev_lst (M := M) (ea1 (.dI (ev_c rfl)) fun _ _ => ea1 (.dI (ev_c rfl)) fun _ _ => ea1 (.dI (ev_c rfl)) fun _ _ => ea0) (by decide)).qL) (Flt.intsL (n := 0) _).shaped (Flt.intsL (n := 0) _).shaped
    · rw [eqv_lI, decide_eq_true rfl] at e
      exact e
    · refine Ev.qL (M := M) (ds := (List.range 3).map fun _ => PyData.int 1) ?_
      refine ev_lc1 (n := 3) (evi_tup (M := M) (ds := [("locks" : Str), "walls", "prices"].map PyData.str) (ev_tup (ea1 (.dS (ev_c rfl)) fun _ _ => ea1 (.dS (ev_c rfl)) fun _ _ => ea1 (.dS (ev_c rfl)) fun _ _ => ea0) (by show 3 ≤ 1000000; omega))).toL ?_ (fun _ => rfl) (by decide) (fun j y Ha Hb s ⟨d, h1, h2⟩ => ⟨d, h1, h2.kp (Kp.of s)⟩)
      rintro j y H3 hj s3 ⟨d, hd, hy⟩
      have one : ∀ b : Str, (ringWords R).count b = 1 → y = .str b → Ev (tBM M.K "list" (rCountV M.K) (tVar 1) (tCons (tVar 2) tNil)) ((wipe ((start N_read_ring [.str (ringText R)]).set 1 (some (.ref a))) [2]).set 2 (some y)) H3 (PD M (.int 1)) := fun b hb e => by
        subst e
        refine Ev.dI (Ev.toI (ev_countL (a := b) (kw rfl (s2.trans s3)) (fun _ _ => ev_slot rfl)) ?_)
        rw [hb]
        rfl
      match j, hj, hd with
      | 0, _, hd => cases hd; cases hy; exact one _ k1 rfl
      | 1, _, hd => cases hd; cases hy; exact one _ k2 rfl
      | 2, _, hd => cases hd; cases hy; exact one _ k3 rfl
  -- the places of the words
  have w1 : ringWords R = [("ring" : Str), numS R.n] ++ ("locks" : Str) :: (R.locks.map numS ++ ("walls" : Str) :: (R.walls.map numS ++ ("prices" : Str) :: R.prices.map numS)) := by
    unfold ringWords
    simp
  have w2 : ringWords R = ([("ring" : Str), numS R.n, "locks"] ++ R.locks.map numS) ++ ("walls" : Str) :: (R.walls.map numS ++ ("prices" : Str) :: R.prices.map numS) := by
    unfold ringWords
    simp
  have w3 : ringWords R = ([("ring" : Str), numS R.n, "locks"] ++ R.locks.map numS ++ [("walls" : Str)] ++ R.walls.map numS) ++ ("prices" : Str) :: R.prices.map numS := by
    unfold ringWords
    simp
  have f1 := first_at [("ring" : Str), numS R.n] ("locks" : Str) (R.locks.map numS ++ ("walls" : Str) :: (R.walls.map numS ++ ("prices" : Str) :: R.prices.map numS)) (by
    have := num_not (i := (R.n : Int)) (by omega) e2 (.inr (by decide))
    simp only [List.mem_cons, List.not_mem_nil, or_false, not_or]
    exact ⟨fun e => n1 e.symm, fun e => this e.symm⟩)
  have f2 := first_at ([("ring" : Str), numS R.n, "locks"] ++ R.locks.map numS) ("walls" : Str) (R.walls.map numS ++ ("prices" : Str) :: R.prices.map numS) (by
    have z1 := num_not (i := (R.n : Int)) (by omega) e3 (.inr (by decide))
    have z2 := nums_not (fun i hi => (ok.lock i hi).1) e3 (.inr (by decide))
    simp only [List.mem_append, List.mem_cons, List.not_mem_nil, or_false, not_or]
    exact ⟨⟨fun e => n2 e.symm, fun e => z1 e.symm, n7⟩, z2⟩)
  have f3 := first_at ([("ring" : Str), numS R.n, "locks"] ++ R.locks.map numS ++ [("walls" : Str)] ++ R.walls.map numS) ("prices" : Str) (R.prices.map numS) (by
    have z1 := num_not (i := (R.n : Int)) (by omega) e4 (.inr (by decide))
    have z2 := nums_not (fun i hi => (ok.lock i hi).1) e4 (.inr (by decide))
    have z3 := nums_not (fun i hi => (ok.wall i hi).1) e4 (.inr (by decide))
    simp only [List.mem_append, List.mem_cons, List.not_mem_nil, or_false, not_or]
    exact ⟨⟨⟨⟨fun e => n3 e.symm, fun e => z1 e.symm, n8⟩, z2⟩, n9⟩, z3⟩)
  rw [← w1] at f1
  rw [← w2] at f2
  rw [← w3] at f3
  refine q_par3 (ev_indexL (kw rfl s2) (fun _ _ => ev_c rfl) f1.1 f1.2) (fun H3 s3 => ev_indexL (kw rfl (s2.trans s3)) (fun _ _ => ev_c rfl) f2.1 f2.2) (fun H3 s3 => ev_indexL (kw rfl (s2.trans s3)) (fun _ _ => ev_c rfl) f3.1 f3.2) fun H3 s3 => ?_
  have s13 : Same H1 H3 := s2.trans s3
  have ll1 : ([("ring" : Str), numS R.n, "locks"] ++ R.locks.map numS).length = 3 + R.locks.length := by simp; omega
  have ll2 : ([("ring" : Str), numS R.n, "locks"] ++ R.locks.map numS ++ [("walls" : Str)] ++ R.walls.map numS).length = 4 + R.locks.length + R.walls.length := by simp; omega
  rw [ll1, ll2]
  refine q_no ((eb_not (b := true) (eb_chain3 (i := 2) (ev_c rfl) (fun _ _ => ev_slot rfl) (fun _ _ => ev_slot rfl) (fun _ _ => ev_slot rfl) (by omega) (by omega))).to rfl) fun H4 s4 => ?_
  have s14 : Same H1 H4 := s13.trans s4
  have sm : ∀ {ns : List Int}, (∀ i ∈ ns, 0 ≤ i ∧ i < 1000) → Small ns := fun h i hi => by have := h i hi; omega
  have small1 : Small [(R.n : Int)] := sm fun i hi => by rw [List.mem_singleton.mp hi]; omega
  have small2 : Small R.prices := sm fun i hi => by have := ok.pr i hi; omega
  have small3 : Small R.locks := sm fun i hi => by have := ok.lock i hi; omega
  have small4 : Small R.walls := sm fun i hi => by have := ok.wall i hi; omega
  have c1 : cutD ((ringWords R).map PyData.str) (some 1) (some 2) = ([(R.n : Int)].map numS).map PyData.str := by
    have e : (ringWords R).map PyData.str = [PyData.str "ring"] ++ ([PyData.str (numS R.n)] ++ (("locks" : Str) :: (R.locks.map numS ++ ("walls" : Str) :: (R.walls.map numS ++ ("prices" : Str) :: R.prices.map numS))).map PyData.str) := by
      rw [w1]
      rfl
    rw [e]
    exact cut_mid [PyData.str "ring"] [PyData.str (numS R.n)] _ (i := 1) (j := 2) rfl rfl
  have c2 : cutD ((ringWords R).map PyData.str) (some ((4 + R.locks.length + R.walls.length : Nat) + 1 : Int)) none = (R.prices.map numS).map PyData.str := by
    have e : (ringWords R).map PyData.str = ([("ring" : Str), numS R.n, "locks"] ++ R.locks.map numS ++ [("walls" : Str)] ++ R.walls.map numS ++ [("prices" : Str)]).map PyData.str ++ (R.prices.map numS).map PyData.str := by
      rw [← List.map_append]
      rfl
    rw [e, show (((4 + R.locks.length + R.walls.length : Nat) : Int) + 1) = ((4 + R.locks.length + R.walls.length + 1 : Nat) : Int) from rfl]
    refine cut_tail _ _ ?_
    rw [List.length_map, List.length_append, ll2]
    rfl
  have c3 : cutD ((ringWords R).map PyData.str) (some 3) (some ((3 + R.locks.length : Nat) : Int)) = (R.locks.map numS).map PyData.str := by
    have e : (ringWords R).map PyData.str = [PyData.str "ring", PyData.str (numS R.n), PyData.str "locks"] ++ ((R.locks.map numS).map PyData.str ++ (("walls" : Str) :: (R.walls.map numS ++ ("prices" : Str) :: R.prices.map numS)).map PyData.str) := by
      rw [← List.map_append, w1]
      rfl
    rw [e]
    refine cut_mid _ _ _ (i := 3) rfl ?_
    rw [List.length_map, List.length_map]
    rfl
  have c4 : cutD ((ringWords R).map PyData.str) (some ((3 + R.locks.length : Nat) + 1 : Int)) (some ((4 + R.locks.length + R.walls.length : Nat) : Int)) = (R.walls.map numS).map PyData.str := by
    have e : (ringWords R).map PyData.str = ([("ring" : Str), numS R.n, "locks"] ++ R.locks.map numS ++ [("walls" : Str)]).map PyData.str ++ ((R.walls.map numS).map PyData.str ++ (("prices" : Str) :: R.prices.map numS).map PyData.str) := by
      rw [← List.map_append, ← List.map_append, w2]
      simp
    rw [e, show (((3 + R.locks.length : Nat) : Int) + 1) = ((3 + R.locks.length + 1 : Nat) : Int) from rfl]
    refine cut_mid _ _ _ ?_ ?_
    · rw [List.length_map, List.length_append, ll1]
      rfl
    · rw [List.length_map, List.length_append, ll1, List.length_map, List.length_map]
      simp only [List.length_cons, List.length_nil]
      omega
  have e1 : Ev (tOp (rIxT M.K) (tCall (sp_numbers_of M) [] E0 (tCons (tSl (rSlL M.K) (tVar 1) (tPart (tC (.int 1))) (tPart (tC (.int 2)))) tNil)) (tC (.int 0))) ((((start N_read_ring [.str (ringText R)]).set 1 (some (.ref a))).set 3 (some (.int ([("ring" : Str), numS R.n].length : Nat)))).set 4 (some (.int (3 + R.locks.length : Nat))) |>.set 5 (some (.int (4 + R.locks.length + R.walls.length : Nat)))) H4 (PI (R.n : Int)) := by
    refine Ev.iD (ev_ix (M := M) (ds := [(R.n : Int)].map PyData.int) (ev_numbers ?_ small1 (by show 1 ≤ 1000; omega)) (fun _ _ => ev_c rfl) (at_nat (by decide) rfl))
    rw [← c1]
    exact ev_slL (kw rfl s14) (fun _ _ => ep_some (ev_c rfl)) (fun _ _ => ep_some (ev_c rfl))
  refine e1 _ fun x H5 s5 hx => ?_
  obtain rfl : x = .int (R.n : Int) := hx
  have e2 : Ev (tCall (sp_numbers_of M) [] E0 (tCons (tSl (rSlL M.K) (tVar 1) (tPart (tOp rAddI (tVar 5) (tC (.int 1)))) tNoPart) tNil)) ((((start N_read_ring [.str (ringText R)]).set 1 (some (.ref a))).set 3 (some (.int ([("ring" : Str), numS R.n].length : Nat)))).set 4 (some (.int (3 + R.locks.length : Nat))) |>.set 5 (some (.int (4 + R.locks.length + R.walls.length : Nat)))) H5 (PD M (dI R.prices)) := by
    refine ev_numbers ?_ small2 (by omega)
    rw [← c2]
    exact ev_slL (kw rfl (s14.trans s5)) (fun _ _ => ep_some (ev_i0 (g := fun i j => .int (i + j)) (ev_slot rfl) (fun _ _ => ev_c rfl))) (fun _ _ => ep_none)
  refine e2 _ fun xp H6 s6 hp => ⟨_, _, rfl, ?_⟩
  have s16 : Same H1 H6 := s14.trans (s5.trans s6)
  have e3 := ev_mkRing13 (M := M) (σ := (((((start N_read_ring [.str (ringText R)]).set 1 (some (.ref a))).set 3 (some (.int ([("ring" : Str), numS R.n].length : Nat)))).set 4 (some (.int (3 + R.locks.length : Nat))) |>.set 5 (some (.int (4 + R.locks.length + R.walls.length : Nat)))).set 6 (some (.int (R.n : Int)))).set 7 (some xp)) (H := H6)
    (n := R.n) (l := R.locks) (w := R.walls) (p := R.prices) (ta := tVar 6) (tp := tVar 7)
    (tl := tCall (sp_numbers_of M) [] E0 (tCons (tSl (rSlL M.K) (tVar 1) (tPart (tC (.int 3))) (tPart (tVar 4))) tNil)) (tw := tCall (sp_numbers_of M) [] E0 (tCons (tSl (rSlL M.K) (tVar 1) (tPart (tOp rAddI (tVar 4) (tC (.int 1)))) (tPart (tVar 5))) tNil))
    (ev_slot rfl) (fun H7 s7 => ?_) (fun H7 s7 => ?_) (fun H7 s7 => ev_var rfl (hp.kp (Kp.of s7))) ok.args
  · rw [ok.same] at e3
    exact s_ret (P := PR M R) (D := { nx := fun _ H' => Q .non H', rt := Q }) e3 (q.s (s1.trans s16))
  · refine ev_numbers ?_ small3 (by omega)
    rw [← c3]
    exact ev_slL (kw rfl (s16.trans s7)) (fun _ _ => ep_some (ev_c rfl)) (fun _ _ => ep_some (ev_slot rfl))
  · refine ev_numbers ?_ small4 (by omega)
    rw [← c4]
    exact ev_slL (kw rfl (s16.trans s7)) (fun _ _ => ep_some (ev_i0 (g := fun i j => .int (i + j)) (ev_slot rfl) (fun _ _ => ev_c rfl))) (fun _ _ => ep_some (ev_slot rfl))
def sp_parse_ring (M : Md) : Sp := fun vs H Q _ => ∃ R, vs = [.str (ringText R)] ∧ R.Ok ∧ Pr (PR M R) H Q
abbrev N_parse_ring : List Str := ["text", "ring"]
def t_parse_ring (M : Md) : TS := (tSeq (tIfS (tNot (tB (tCB (rIsi M.K) (tCons (tVar 0) (tCons (tC (.ty "str")) tNil))))) tNever tNext)
  (tSeq (tAsg (tCall (sp_read_ring M) [] E0 (tCons (tVar 0) tNil)) (gName 1))
  (tSeq (tIfS (tTest (tOp rNe (tCB (rOwnTxt M.ring (sp_Ring_str M)) (tCons (tVar 1) tNil)) (tVar 0))) tNever tNext)
  (tRet (tVar 1)))))
theorem rd_parse_ring {M : Md} {vs : List V} {H : Hp} {Q : VK} {E : XK} (h : sp_parse_ring M vs H Q E) : t_parse_ring M { nx := fun _ H' => Q .non H', rt := Q } (start N_parse_ring vs) H := by
  obtain ⟨R, rfl, ok, q⟩ := h
  refine q_no ((eb_not (eb_val (b := true) (ev_isi (k := "str") (ev_slot rfl |>.imp fun v H' _ e => by rw [show v = V.str (ringText R) from e]; exact .str _) (by decide +kernel)))).to rfl) fun H1 s1 => ?_
  have e1 : Ev (tCall (sp_read_ring M) [] E0 (tCons (tVar 0) tNil)) (start N_parse_ring [.str (ringText R)]) H1 (PR M R) := fun Q' q' => ⟨_, rfl, R, rfl, ok, q'⟩
  refine q_set e1 fun v H2 s2 hv => ?_
  refine q_no (eb_test (Ev.toB (ev_ne (x := .str (ringText R)) (y := .str (ringText R)) (fun Q' q' => ?_) (fun _ _ => ev_slot rfl) rfl) (by simp))) fun H3 s3 => ?_
  · obtain ⟨a, dx, l, w, p, rfl, ha, hr⟩ := id hv
    exact ⟨_, rfl, a, dx, _, rfl, ha, _, R, rfl, hv, ok, fun v H' s e => ⟨_, e, q' v H' s e⟩⟩
  · exact s_ret (P := PR M R) (ev_var rfl (hv.kp (Kp.of s3))) (q.s ((s1.trans s2).trans s3))
end Crx

set_option maxHeartbeats 4000000
/-! Rd9: ==  of rings; recorders: promises and readings. -/
namespace Crx
open PySem PySem.Spec PyProof.Rows L2 RZ

/-! ### Ring.__eq__ -/
def eqR (R S : RingD) : Bool := decide (R.n = S.n) && decide (R.prices = S.prices) && decide (R.locks = S.locks) && decide (R.walls = S.walls)
def sp_Ring_eq (M : Md) : Sp := fun vs H Q _ => ∃ x y R S, vs = [x, y] ∧ IsRing M H x R ∧ IsRing M H y S ∧ Pr (PB (eqR R S)) H Q
abbrev N_Ring_eq : List Str := ["self", "other"]
def t_Ring_eq (M : Md) : TS := (tSeq (tIfS (tOr (tNot (tB (tCB (rIsi M.K) (tCons (tVar 1) (tCons (tC (.ref M.ring)) tNil))))) (tOr (tTest (tOp rNe (tFld M.K (tVar 0) "size") (tFld M.K (tVar 1) "size"))) (tTest (tOp (rNeD M.K) (tFld M.K (tVar 0) "prices") (tFld M.K (tVar 1) "prices"))))) (tRet (tC (.bl false))) tNext)
  (tRet (tAndV (tOp (rEqD M.K) (tFld M.K (tVar 0) "locks") (tFld M.K (tVar 1) "locks")) (tOp (rEqD M.K) (tFld M.K (tVar 0) "walls") (tFld M.K (tVar 1) "walls")))))
theorem rd_Ring_eq {M : Md} (C : RCls M) (I : ICls M.K M.ring) {vs : List V} {H : Hp} {Q : VK} {E : XK} (h : sp_Ring_eq M vs H Q E) : t_Ring_eq M { nx := fun _ H' => Q .non H', rt := Q } (start N_Ring_eq vs) H := by
  obtain ⟨x, y, R, S, rfl, hx, hy, q⟩ := h
  have kx : ∀ {σ : L2.St} {H1 : Hp}, σ[0]? = some (some x) → Same H H1 → Ev (tVar 0) σ H1 (PR M R) := fun e s => ev_var e (hx.kp (Kp.of s))
  have ky : ∀ {σ : L2.St} {H1 : Hp}, σ[1]? = some (some y) → Same H H1 → Ev (tVar 1) σ H1 (PR M S) := fun e s => ev_var e (hy.kp (Kp.of s))
  have eI : ∀ {ns ms : List Int}, PyData.eqv (dI ns) (dI ms) = decide (ns = ms) := fun {ns ms} => eqv_dI ns ms
  refine q_if (b := !(decide (R.n = S.n) && decide (R.prices = S.prices))) ((eb_or (b := false) ((eb_not (eb_val (b := true) (ev_isRing I (ky rfl (Same.refl _))))).to rfl) fun _ H1 s1 => eb_or (b := !decide (R.n = S.n)) (c := !decide (R.prices = S.prices)) (eb_test (Ev.toB (ev_ne (ev_size C (kx rfl s1)) (fun H2 s2 => ev_size C (ky rfl (s1.trans s2))) rfl) ?_)) fun _ H2 s2 => eb_test (Ev.toB (ev_neD (ev_prices C (kx rfl (s1.trans s2))).qD (fun H3 s3 => (ev_prices C (ky rfl ((s1.trans s2).trans s3))).qD) (Flt.ints (n := 0) _).shaped (Flt.ints (n := 0) _).shaped) ?_)).to ?_) (fun e H1 s1 => ?_) (fun e H1 s1 => ?_)
  · congr 1
    exact decide_eq_decide.mpr ⟨fun e => Int.ofNat.inj (V.int.inj e), fun e => by rw [e]⟩
  · rw [eI]
  · rw [Bool.false_or, Bool.not_and]
  · refine s_ret (P := PB (eqR R S)) (Ev.toB (ev_c rfl) ?_) (q.s s1)
    unfold eqR
    rw [Bool.not_eq_true'] at e
    rw [e]
    rfl
  · refine s_ret (P := PB (eqR R S)) (Ev.toB (ev_andV (b := decide (R.locks = S.locks)) (c := decide (R.walls = S.walls)) (Ev.toB (ev_eqD (ev_locks C (kx rfl s1)).qD (fun H3 s3 => (ev_locks C (ky rfl (s1.trans s3))).qD) (Flt.ints (n := 0) _).shaped (Flt.ints (n := 0) _).shaped) eI) fun _ H2 s2 =>
      Ev.toB (ev_eqD (ev_walls C (kx rfl (s1.trans s2))).qD (fun H3 s3 => (ev_walls C (ky rfl ((s1.trans s2).trans s3))).qD) (Flt.ints (n := 0) _).shaped (Flt.ints (n := 0) _).shaped) eI) ?_) (q.s s1)
    unfold eqR
    rw [Bool.not_eq_false'] at e
    rw [e, Bool.true_and]

/-! ### recorders -/
structure RecD where
  R : RingD
  z : Str
  done : List (Ins × Str)
  run : Bool
  runs : Int
def recFs (rv : V) (z : Str) (l : Addr) (run : Bool) (runs : Int) : List (Str × V) := [("ring", rv), ("running", .bl run), ("runs", .int runs), ("letters", .str z), ("done", .ref l)]
def doneD (d : Ins × Str) : PyData := .tuple [insD d.1, .str d.2]
/-- the instance at a, its list at l, are the recorder -/
def IsRec (M : Md) (H : Hp) (a l : Addr) (D : RecD) : Prop := ∃ dx rv, H a = some (.ins M.recd dx (recFs rv D.z l D.run D.runs)) ∧ IsRing M H rv D.R ∧ LstAt M H l (D.done.map doneD)
structure RecD.Ok (D : RecD) : Prop where
  R : D.R.Ok
  z : Letters D.R.n D.z
  d : ∀ p ∈ D.done, 0 ≤ p.1.1 ∧ p.1.1 < (D.R.n : Int)
theorem IsRec.s {M : Md} {H H' : Hp} {a l : Addr} {D : RecD} (h : IsRec M H a l D) (s : Same H H') : IsRec M H' a l D := by
  obtain ⟨dx, rv, h1, h2, h3⟩ := h
  exact ⟨dx, rv, s _ _ h1, h2.kp (Kp.of s), h3.s s⟩
/-- kept when tuples and rings are, and its own two objects -/
theorem IsRec.kp {M : Md} {H H' : Hp} {a l : Addr} {D : RecD} (h : IsRec M H a l D) (k : Kp M H H') (ka : ∀ o, H a = some o → H' a = some o) (kl : ∀ o, H l = some o → H' l = some o) : IsRec M H' a l D := by
  obtain ⟨dx, rv, h1, h2, h3⟩ := h
  exact ⟨dx, rv, ka _ h1, h2.kp k, h3.kp k kl⟩
/-- the class as the top has made it -/
structure CCls (M : Md) : Prop where
  cl : Cls M.K M.recd
  nR : NoAttr M.K M.recd "ring"
  nG : NoAttr M.K M.recd "running"
  nN : NoAttr M.K M.recd "runs"
  nL : NoAttr M.K M.recd "letters"
  nD : NoAttr M.K M.recd "done"
theorem recFs_at (rv : V) (z : Str) (l : Addr) (run : Bool) (runs : Int) : (recFs rv z l run runs).lookup ("ring" : Str) = some rv ∧ (recFs rv z l run runs).lookup ("running" : Str) = some (.bl run) ∧ (recFs rv z l run runs).lookup ("runs" : Str) = some (.int runs) ∧
    (recFs rv z l run runs).lookup ("letters" : Str) = some (.str z) ∧ (recFs rv z l run runs).lookup ("done" : Str) = some (.ref l) := by
  have e1 : (("ring" : Str) == "ring") = true := by decide +kernel
  have e2 : (("running" : Str) == "ring") = false ∧ (("running" : Str) == "running") = true := by decide +kernel
  have e3 : (("runs" : Str) == "ring") = false ∧ (("runs" : Str) == "running") = false ∧ (("runs" : Str) == "runs") = true := by decide +kernel
  have e4 : (("letters" : Str) == "ring") = false ∧ (("letters" : Str) == "running") = false ∧ (("letters" : Str) == "runs") = false ∧ (("letters" : Str) == "letters") = true := by decide +kernel
  have e5 : (("done" : Str) == "ring") = false ∧ (("done" : Str) == "running") = false ∧ (("done" : Str) == "runs") = false ∧ (("done" : Str) == "letters") = false ∧ (("done" : Str) == "done") = true := by decide +kernel
  unfold recFs
  refine ⟨?_, ?_, ?_, ?_, ?_⟩
  · rw [List.lookup_cons, e1]
  · rw [List.lookup_cons, e2.1, List.lookup_cons, e2.2]
  · rw [List.lookup_cons, e3.1, List.lookup_cons, e3.2.1, List.lookup_cons, e3.2.2]
  · rw [List.lookup_cons, e4.1, List.lookup_cons, e4.2.1, List.lookup_cons, e4.2.2.1, List.lookup_cons, e4.2.2.2]
  · rw [List.lookup_cons, e5.1, List.lookup_cons, e5.2.1, List.lookup_cons, e5.2.2.1, List.lookup_cons, e5.2.2.2.1, List.lookup_cons, e5.2.2.2.2]
theorem recFs_no (rv : V) (z : Str) (l : Addr) (run : Bool) (runs : Int) {m : Str} (h1 : (m == "ring") = false) (h2 : (m == "running") = false) (h3 : (m == "runs") = false) (h4 : (m == "letters") = false) (h5 : (m == "done") = false) : (recFs rv z l run runs).lookup m = none := by
  unfold recFs
  rw [List.lookup_cons, h1, List.lookup_cons, h2, List.lookup_cons, h3, List.lookup_cons, h4, List.lookup_cons, h5]
  rfl
section
variable {M : Md} {σ : L2.St} {H H' : Hp} {te : TE} {D : RecD} {a l : Addr}
/-- the value is the recorder -/
abbrev PC (M : Md) (a l : Addr) (D : RecD) : V → Hp → Prop := fun v H => v = .ref a ∧ IsRec M H a l D
theorem ev_rec (h : σ[0]? = some (some (.ref a))) (r : IsRec M H a l D) : Ev (tVar 0) σ H (PC M a l D) := ev_var h ⟨rfl, r⟩
theorem ev_rring (C : CCls M) (h : Ev te σ H (PC M a l D)) : Ev (tFld M.K te "ring") σ H (PR M D.R) := ev_fld h fun x H1 _ ⟨e, dx, rv, h1, h2, h3⟩ => ⟨a, M.recd, dx, _, _, e, h1, C.cl, C.nR, (recFs_at ..).1, h2⟩
theorem ev_rrunning (C : CCls M) (h : Ev te σ H (PC M a l D)) : Ev (tFld M.K te "running") σ H (PB D.run) := ev_fld h fun x H1 _ ⟨e, dx, rv, h1, h2, h3⟩ => ⟨a, M.recd, dx, _, _, e, h1, C.cl, C.nG, (recFs_at ..).2.1, rfl⟩
theorem ev_rruns (C : CCls M) (h : Ev te σ H (PC M a l D)) : Ev (tFld M.K te "runs") σ H (PI D.runs) := ev_fld h fun x H1 _ ⟨e, dx, rv, h1, h2, h3⟩ => ⟨a, M.recd, dx, _, _, e, h1, C.cl, C.nN, (recFs_at ..).2.2.1, rfl⟩
theorem ev_rletters (C : CCls M) (h : Ev te σ H (PC M a l D)) : Ev (tFld M.K te "letters") σ H (PV (.str D.z)) := ev_fld h fun x H1 _ ⟨e, dx, rv, h1, h2, h3⟩ => ⟨a, M.recd, dx, _, _, e, h1, C.cl, C.nL, (recFs_at ..).2.2.2.1, rfl⟩
theorem ev_rdone (C : CCls M) (h : Ev te σ H (PC M a l D)) : Ev (tFld M.K te "done") σ H (PL M (D.done.map doneD)) := ev_fld h fun x H1 _ ⟨e, dx, rv, h1, h2, xs, h3, h4⟩ => ⟨a, M.recd, dx, _, _, e, h1, C.cl, C.nD, (recFs_at ..).2.2.2.2, l, xs, rfl, h3, h4⟩
theorem ev_rdoneA (C : CCls M) (h : Ev te σ H (PC M a l D)) : Ev (tFld M.K te "done") σ H (fun v H' => v = .ref l ∧ IsRec M H' a l D) := ev_fld h fun x H1 _ ⟨e, dx, rv, h1, h2, h3⟩ => ⟨a, M.recd, dx, _, _, e, h1, C.cl, C.nD, (recFs_at ..).2.2.2.2, rfl, dx, rv, h1, h2, h3⟩
end
/-! __init__ -/
def sp_Recorder_init (M : Md) : Sp := fun vs H Q _ => ∃ (a dx : Addr) (rv : V) (R : RingD) (z : Str), vs = [.ref a, rv, .str z] ∧ H a = some (.ins M.recd dx []) ∧ IsRing M H rv R ∧ R.Ok ∧ Letters R.n z ∧
  ∀ H' l, H l = none → (∀ b o, b ≠ a → H b = some o → H' b = some o) → IsRec M H' a l ⟨R, z, [], false, 0⟩ → Q .non H'
abbrev N_Recorder_init : List Str := ["self", "ring", "content"]
def t_Recorder_init (M : Md) : TS := (tSeq (tDrop (tCall (sp_check_ring M) [] E0 (tCons (tVar 1) tNil)))
  (tSeq (tDrop (tCall (sp_check_content M) [] E0 (tCons (tVar 1) (tCons (tVar 2) tNil))))
  (tSeq (sFld M.K (tVar 0) (tVar 1) "ring")
  (tSeq (sFld M.K (tVar 0) (tC (.bl false)) "running")
  (tSeq (sFld M.K (tVar 0) (tC (.int 0)) "runs")
  (tSeq (sFld M.K (tVar 0) (tVar 2) "letters")
  (sFld M.K (tVar 0) (tLst tNil) "done")))))))
theorem str_rec : ¬ (("ring" : Str) = "running") ∧ ¬ (("ring" : Str) = "runs") ∧ ¬ (("ring" : Str) = "letters") ∧ ¬ (("ring" : Str) = "done") ∧ ¬ (("running" : Str) = "runs") ∧ ¬ (("running" : Str) = "letters") ∧ ¬ (("running" : Str) = "done") ∧
    ¬ (("runs" : Str) = "letters") ∧ ¬ (("runs" : Str) = "done") ∧ ¬ (("letters" : Str) = "done") := by decide +kernel
theorem rd_Recorder_init {M : Md} (C : CCls M) (hne : M.recd ≠ M.ring) {vs : List V} {H : Hp} {Q : VK} {E : XK} (h : sp_Recorder_init M vs H Q E) : t_Recorder_init M { nx := fun _ H' => Q .non H', rt := Q } (start N_Recorder_init vs) H := by
  obtain ⟨a, dx, rv, R, z, rfl, ha, hr, ok, hz, q⟩ := h
  obtain ⟨n1, n2, n3, n4, n5, n6, n7, n8, n9, n10⟩ := str_rec
  have e1 : Ev (tCall (sp_check_ring M) [] E0 (tCons (tVar 1) tNil)) (start N_Recorder_init [.ref a, rv, .str z]) H (PV .non) := fun Q' q' => ⟨_, rfl, rv, R, rfl, hr, q'⟩
  refine q_drop e1 fun H1 s1 => ?_
  have e2 : Ev (tCall (sp_check_content M) [] E0 (tCons (tVar 1) (tCons (tVar 2) tNil))) (start N_Recorder_init [.ref a, rv, .str z]) H1 (PV .non) := fun Q' q' => ⟨_, rfl, _, rfl, rv, R, z, rfl, hr.kp (Kp.of s1), ok, hz, q'⟩
  refine q_drop e2 fun H2 s2 => ?_
  have s12 : Same H H2 := s1.trans s2
  have ha2 : H2 a = some (.ins M.recd dx []) := s12 _ _ ha
  refine ⟨_, rfl, _, rfl, a, M.recd, dx, [], rfl, ha2, C.cl, C.nR, (by show 0 < 1000; omega), ?_⟩
  refine ⟨_, rfl, a, M.recd, dx, _, rfl, upd_same, C.cl, C.nG, (by show 1 < 1000; omega), ?_⟩
  refine ⟨_, rfl, a, M.recd, dx, _, rfl, upd_same, C.cl, C.nN, (by show 2 < 1000; omega), ?_⟩
  refine ⟨_, rfl, _, rfl, a, M.recd, dx, _, rfl, upd_same, C.cl, C.nL, (by show 3 < 1000; omega), ?_⟩
  rw [upd_upd, upd_upd, upd_upd]
  have ef : putF "letters" (.str z) (putF "runs" (.int 0) (putF "running" (.bl false) (putF "ring" rv []))) = ([("ring", rv), ("running", .bl false), ("runs", .int 0), ("letters", .str z)] : List (Str × V)) := by
    simp only [putF, n1, n2, n3, n5, n6, n8, if_false, ite_false]
  rw [ef]
  refine ⟨Nat.zero_le _, fun l hl => ?_⟩
  have hal : a ≠ l := fun e => by rw [e, upd_same] at hl; cases hl
  have hl2 : H2 l = none := by rw [upd_ne (Ne.symm hal)] at hl; exact hl
  refine ⟨_, rfl, a, M.recd, dx, _, rfl, (upd_ne hal).trans upd_same, C.cl, C.nD, (by show 4 < 1000; omega), ?_⟩
  have ef2 : putF "done" (.ref l) ([("ring", rv), ("running", .bl false), ("runs", .int 0), ("letters", .str z)] : List (Str × V)) = recFs rv z l false 0 := by
    simp only [putF, n4, n7, n9, n10, if_false, ite_false]
    rfl
  rw [ef2]
  have keep : ∀ b o, b ≠ a → H b = some o → (upd (upd (upd H2 a (.ins M.recd dx [("ring", rv), ("running", .bl false), ("runs", .int 0), ("letters", .str z)])) l (.lst [])) a (.ins M.recd dx (recFs rv z l false 0))) b = some o := fun b o hb e => by
    rw [upd_ne hb, upd_ne (fun z => by rw [z, ← z] at e; have := s12 _ _ e; rw [z, hl2] at this; cases this), upd_ne hb]
    exact s12 _ _ e
  refine q _ l ?_ keep ⟨dx, rv, upd_same, ?_, [], ?_, .nil⟩
  · cases e : H l with
    | none => rfl
    | some o =>
      have := s12 _ _ e
      rw [hl2] at this
      cases this
  · refine hr.kp ⟨fun b xs e => ?_, fun b dx' fs e => keep _ _ (fun z => ?_) e⟩
    · rcases e with e | ⟨o, e⟩
      · exact .inl (keep _ _ (fun z => by rw [z, ha] at e; cases e) e)
      · exact .inr ⟨o, keep _ _ (fun z => by rw [z, ha] at e; cases e) e⟩
    · rw [z, ha] at e
      exact hne (HO.ins.inj (Option.some.inj e)).1
  · rw [upd_ne (Ne.symm hal), upd_same]
end Crx

set_option maxHeartbeats 4000000
/-! Rd10: a recorder's defs. -/
namespace Crx
open PySem PySem.Spec PyProof.Rows L2 RZ

/-! ### readings, one step -/
theorem a_cons {σ : L2.St} {H : Hp} {ta : TE} {tr : TA} {Q : List V → Hp → Prop} (h : ta σ H fun x H1 => tr σ H1 fun xs H2 => Q (x :: xs) H2) : tCons ta tr σ H Q := h
theorem a_call {σ : L2.St} {H : Hp} {sp : Sp} {dvs : List V} {E : XK} {t : TA} {Q : VK} (h : t σ H fun vs H1 => sp (vs ++ dvs) H1 Q E) : tCall sp dvs E t σ H Q := h
theorem a_drop {σ : L2.St} {H : Hp} {te : TE} {D : Ends} (h : te σ H fun _ H1 => D.nx σ H1) : tDrop te D σ H := h
theorem a_bm {σ : L2.St} {H : Hp} {K : PySem.W.Frag} {T : String} {r : V → List V → Hp → VK → Prop} {to : TE} {t : TA} {Q : VK} (h : to σ H fun x H1 => tyV K T x H1 ∧ t σ H1 fun xs H2 => r x xs H2 Q) : tBM K T r to t σ H Q := h
/-! ### == -/
theorem first_me (K : PySem.W.Frag) (C : Addr) : PySem.W.notFirst K C (.ref C) = true := by simp [PySem.W.notFirst]
section
variable {M : Md} {σ : L2.St} {H : Hp} {ta tb te : TE} {R S : RingD}
theorem ev_ringEq (I : ICls M.K M.ring) (ha : Ev ta σ H (PR M R)) (hb : ∀ H1, Same H H1 → Ev tb σ H1 (PR M S)) : Ev (tOp (rOwnQ M.K M.ring (sp_Ring_eq M)) ta tb) σ H (PB (eqR R S)) :=
  ev_op ha (fun _ H1 s1 _ => hb H1 s1) fun x y H1 H2 s1 s2 p1 p2 Q q => by
    have p1' : IsRing M H2 x R := p1.kp (Kp.of s2)
    obtain ⟨a, dx, l, w, p, rfl, h1, h2⟩ := id p1'
    obtain ⟨b, dy, l', w', p', rfl, g1, g2⟩ := id p2
    exact ⟨a, dx, _, .ref M.ring, rfl, h1, I.ty g1, first_me _ _, _, _, R, S, rfl, p1', p2, q⟩
end
/-- not a recorder -/
def OtherV (M : Md) (H : Hp) (y : V) : Prop := ∃ t, TyX M.K H y t ∧ PySem.W.kitOne M.K t (.ref M.recd) = some false
def eqC (D F : RecD) : Bool := eqR D.R F.R && decide (D.z = F.z)
def sp_Recorder_eq (M : Md) : Sp := fun vs H Q _ => ∃ (a l : Addr) (D : RecD) (y : V), vs = [.ref a, y] ∧ IsRec M H a l D ∧
  ((∃ (b l' : Addr) (F : RecD), y = .ref b ∧ IsRec M H b l' F ∧ Pr (PB (eqC D F)) H Q) ∨ (OtherV M H y ∧ Pr (PB false) H Q))
abbrev N_Recorder_eq : List Str := ["self", "other"]
def t_Recorder_eq (M : Md) : TS := (tRet (tAndV (tCB (rIsi M.K) (tCons (tVar 1) (tCons (tC (.ref M.recd)) tNil))) (tAndV (tOp (rOwnQ M.K M.ring (sp_Ring_eq M)) (tFld M.K (tVar 0) "ring") (tFld M.K (tVar 1) "ring")) (tOp rEq (tFld M.K (tVar 0) "letters") (tFld M.K (tVar 1) "letters")))))
theorem rd_Recorder_eq {M : Md} (C : CCls M) (I : ICls M.K M.ring) (J : ICls M.K M.recd) {vs : List V} {H : Hp} {Q : VK} {E : XK} (h : sp_Recorder_eq M vs H Q E) : t_Recorder_eq M { nx := fun _ H' => Q .non H', rt := Q } (start N_Recorder_eq vs) H := by
  obtain ⟨a, l, D, y, rfl, hr, ⟨b, l', F, rfl, hf, q⟩ | ⟨⟨t, ty, hk⟩, q⟩⟩ := h
  · have kx : ∀ {σ : L2.St} {H1 : Hp}, σ[0]? = some (some (.ref a)) → Same H H1 → Ev (tVar 0) σ H1 (PC M a l D) := fun e s => ev_var e ⟨rfl, hr.s s⟩
    have ky : ∀ {σ : L2.St} {H1 : Hp}, σ[1]? = some (some (.ref b)) → Same H H1 → Ev (tVar 1) σ H1 (PC M b l' F) := fun e s => ev_var e ⟨rfl, hf.s s⟩
    refine s_ret (P := PB (eqC D F)) (Ev.toB (ev_andV (b := true) (c := eqC D F) (ev_isMe J ((ky rfl (Same.refl _)).imp fun v H' _ ⟨e, dx, rv, h1, _⟩ => ⟨b, dx, _, e, h1⟩)) fun _ H1 s1 => ?_) (Bool.true_and _)) q
    refine ev_andV (b := eqR D.R F.R) (c := decide (D.z = F.z)) (ev_ringEq I (ev_rring C (kx rfl s1)) fun H2 s2 => ev_rring C (ky rfl (s1.trans s2))) fun _ H2 s2 => ?_
    exact Ev.toB (ev_eq (ev_rletters C (kx rfl (s1.trans s2))) (fun H3 s3 => ev_rletters C (ky rfl ((s1.trans s2).trans s3))) rfl) (decide_eq_decide.mpr ⟨fun e => V.str.inj e, fun e => congrArg V.str e⟩)
  · refine s_ret (P := PB false) (Ev.toB (ev_andV (b := false) (c := false) (fun Q' q' => ?_) fun z => nomatch z) rfl) q
    exact ⟨y, rfl, y, .ref M.recd, t, .ref M.recd, false, rfl, .own _, ty, hk, q' _ _ (Same.refl _) rfl⟩

/-! ### len, texts -/
def sp_Recorder_len (M : Md) : Sp := fun vs H Q _ => ∃ (a l : Addr) (D : RecD), vs = [.ref a] ∧ IsRec M H a l D ∧ Pr (PI (D.done.length : Nat)) H Q
abbrev N_Recorder_len : List Str := ["self"]
def t_Recorder_len (M : Md) : TS := (tRet (tCB (rLenQ M.K) (tCons (tFld M.K (tVar 0) "done") tNil)))
theorem rd_Recorder_len {M : Md} (C : CCls M) {vs : List V} {H : Hp} {Q : VK} {E : XK} (h : sp_Recorder_len M vs H Q E) : t_Recorder_len M { nx := fun _ H' => Q .non H', rt := Q } (start N_Recorder_len vs) H := by
  obtain ⟨a, l, D, rfl, hr, q⟩ := h
  refine s_ret (P := PI (D.done.length : Nat)) (Ev.toI (ev_lenL (ev_rdone C (ev_rec rfl hr))) ?_) q
  rw [List.length_map]
/-- Recorder(n, k) -/
def recText (n k : Nat) : Str := ("Recorder(" : Str) ++ numS n ++ (", " : Str) ++ numS k ++ (")" : Str)
theorem empty_app (x : Str) : Str.empty ++ x = x := TL.ext_tl (by rw [TL.tl_append]; rfl)
theorem len_app (x y : Str) : (x ++ y).length = x.length + y.length := by rw [TL.len_tl, TL.tl_append, List.length_append, ← TL.len_tl, ← TL.len_tl]
theorem lits : ("Recorder(" : Str).length = 9 ∧ (", " : Str).length = 2 ∧ (")" : Str).length = 1 := by decide +kernel
def sp_Recorder_str (M : Md) : Sp := fun vs H Q _ => ∃ (a l : Addr) (D : RecD), vs = [.ref a] ∧ IsRec M H a l D ∧ D.R.n ≤ 12 ∧ D.done.length ≤ 1000 ∧ Pr (PV (.str (recText D.R.n D.done.length))) H Q
abbrev N_Recorder_str : List Str := ["self"]
def t_Recorder_str (M : Md) : TS := (tRet (fun σ H Q => tJs [(tC (.str "Recorder(")), (tFmt (tFld M.K (tFld M.K (tVar 0) "ring") "size")), (tC (.str ", ")), (tFmt (tCB (rLenQ M.K) (tCons (tFld M.K (tVar 0) "done") tNil))), (tC (.str ")"))] Str.empty σ H fun out H1 => Q (.str out) H1))
theorem rd_Recorder_str {M : Md} (C : CCls M) (CR : RCls M) {vs : List V} {H : Hp} {Q : VK} {E : XK} (h : sp_Recorder_str M vs H Q E) : t_Recorder_str M { nx := fun _ H' => Q .non H', rt := Q } (start N_Recorder_str vs) H := by
  obtain ⟨a, l, D, rfl, hr, hn, hd, q⟩ := h
  obtain ⟨e1, e2, e3⟩ := lits
  have l1 : (numS D.R.n).length ≤ 6 := numS_len (by omega) (by decide) (by omega)
  have l2 : (numS D.done.length).length ≤ 6 := numS_len (by omega) (by decide) (by omega)
  have big : ∀ {x : Str}, x.length ≤ 1000 → x.length ≤ sizeLine := fun h => Nat.le_trans h (by decide)
  refine ⟨_, rfl, big (by rw [empty_app, e1]; omega), ?_⟩
  refine ev_size CR (ev_rring C (ev_rec rfl hr)) _ fun x H1 s1 ex => .inr ⟨D.R.n, ex, small_log (by omega) (by omega), _, rfl, big (by rw [empty_app, len_app, e1]; show 9 + (numS D.R.n).length ≤ 1000; omega), ?_⟩
  refine ⟨_, rfl, big (by rw [empty_app, len_app, len_app, e1, e2]; show 9 + (numS D.R.n).length + 2 ≤ 1000; omega), ?_⟩
  refine ev_lenL (ev_rdone C (ev_rec rfl (hr.s s1))) _ fun y H2 s2 ey => .inr ⟨(D.done.map doneD).length, ey, small_log (by omega) (by rw [List.length_map]; omega), _, rfl, ?_, ?_⟩
  · refine big ?_
    rw [List.length_map, empty_app, len_app, len_app, len_app, e1, e2]
    show 9 + (numS D.R.n).length + 2 + (numS D.done.length).length ≤ 1000
    omega
  refine ⟨_, rfl, ?_, ?_⟩
  · refine big ?_
    rw [List.length_map, empty_app, len_app, len_app, len_app, len_app, e1, e2, e3]
    show 9 + (numS D.R.n).length + 2 + (numS D.done.length).length + 1 ≤ 1000
    omega
  · rw [List.length_map, empty_app]
    exact q _ _ (s1.trans s2) rfl
abbrev sp_Recorder_repr (M : Md) : Sp := sp_Recorder_str M
abbrev N_Recorder_repr : List Str := ["self"]
def t_Recorder_repr (M : Md) : TS := (tRet (tCB (rOwnTxt M.recd (sp_Recorder_str M)) (tCons (tVar 0) tNil)))
theorem rd_Recorder_repr {M : Md} {vs : List V} {H : Hp} {Q : VK} {E : XK} (h : sp_Recorder_repr M vs H Q E) : t_Recorder_repr M { nx := fun _ H' => Q .non H', rt := Q } (start N_Recorder_repr vs) H := by
  obtain ⟨a, l, D, rfl, hr, hn, hd, q⟩ := h
  obtain ⟨dx, rv, h1, h2⟩ := id hr
  exact ⟨_, rfl, a, dx, _, rfl, h1, a, l, D, rfl, hr, hn, hd, fun v H' s e => ⟨_, e, q v H' s e⟩⟩

/-! ### what it holds -/
def sp_Recorder_held (M : Md) : Sp := fun vs H Q _ => ∃ (a l : Addr) (D : RecD), vs = [.ref a] ∧ IsRec M H a l D ∧ Pr (PV (.str D.z)) H Q
abbrev N_Recorder_held : List Str := ["self"]
def t_Recorder_held (M : Md) : TS := (tRet (tFld M.K (tVar 0) "letters"))
theorem rd_Recorder_held {M : Md} (C : CCls M) {vs : List V} {H : Hp} {Q : VK} {E : XK} (h : sp_Recorder_held M vs H Q E) : t_Recorder_held M { nx := fun _ H' => Q .non H', rt := Q } (start N_Recorder_held vs) H := by
  obtain ⟨a, l, D, rfl, hr, q⟩ := h
  exact s_ret (P := PV (.str D.z)) (ev_rletters C (ev_rec rfl hr)) q
/-- the instructions -/
def RecD.ins (D : RecD) : List Ins := D.done.map (·.1)
def sp_Recorder_recorded (M : Md) : Sp := fun vs H Q _ => ∃ (a l : Addr) (D : RecD), vs = [.ref a] ∧ IsRec M H a l D ∧ D.done.length ≤ 1000 ∧ Pr (PD M (.tuple (D.ins.map insD))) H Q
abbrev N_Recorder_recorded : List Str := ["self", "instruction", "letters"]
def t_Recorder_recorded (M : Md) : TS := (tRet (tCB (rTupOf M.K) (tCons (tLc (iList M.K (tFld M.K (tVar 0) "done")) (gTup M.K 2 (gCons (gName 1) (gCons (gName 2) gNil))) tYes (tVar 1) [1, 2]) tNil)))
theorem done_get {D : RecD} {j : Nat} {d : PyData} (h : (D.done.map doneD)[j]? = some d) : ∃ i z, D.done[j]? = some (i, z) ∧ d = .tuple [insD i, .str z] := by
  rw [List.getElem?_map] at h
  obtain ⟨⟨i, z⟩, h1, rfl⟩ := Option.map_eq_some_iff.mp h
  exact ⟨i, z, h1, rfl⟩
theorem rd_Recorder_recorded {M : Md} (C : CCls M) {vs : List V} {H : Hp} {Q : VK} {E : XK} (h : sp_Recorder_recorded M vs H Q E) : t_Recorder_recorded M { nx := fun _ H' => Q .non H', rt := Q } (start N_Recorder_recorded vs) H := by
  obtain ⟨a, l, D, rfl, hr, hd, q⟩ := h
  refine s_ret (P := PD M (.tuple (D.ins.map insD))) (ev_tupL ?_) q
  have hL := evl_list (M := M) (σ := start N_Recorder_recorded [.ref a]) (H := H) (ts := tFld M.K (tVar 0) "done") (ev_rdone C (ev_rec rfl hr))
  rw [List.length_map] at hL
  have e := ev_lc (M := M) (σ := start N_Recorder_recorded [.ref a]) (H := H) (keep := fun _ => true) (g := gTup M.K 2 (gCons (gName 1) (gCons (gName 2) gNil))) (tt := tYes) (te := tVar 1) (vs := [1, 2]) (e := fun j => ((D.ins.map insD)[j]?).getD .none) hL ?_ (by omega)
  · rw [List.filter_eq_self.mpr (fun _ _ => rfl)] at e
    have e2 : (List.range D.done.length).map (fun j => ((D.ins.map insD)[j]?).getD .none) = D.ins.map insD := by
      have z := map_range_get (n := D.done.length) (f := fun j => ((D.ins.map insD)[j]?).getD .none) (xs := D.ins.map insD) (h := id) (by unfold RecD.ins; rw [List.length_map, List.length_map]) (fun i a h => by rw [h]; rfl)
      rw [z, List.map_id]
    rw [e2] at e
    exact e
  · intro j x H1 hj s1 y R k
    obtain ⟨d, hd', hx⟩ := y
    obtain ⟨i, z, hi, rfl⟩ := done_get hd'
    obtain ⟨b, xs, rfl, hs, hda⟩ := Dt.sq hx
    cases hda with
    | cons d1 hda =>
      cases hda with
      | cons d2 hda =>
        cases hda
        refine ⟨b, _, rfl, hs, rfl, _, _, rfl, _, _, rfl, rfl, ?_⟩
        refine k _ H1 (Same.refl _) rfl eb_yes fun _ H3 s3 => ev_var rfl ?_
        have e3 : ((D.ins.map insD)[j]?).getD .none = insD i := by
          unfold RecD.ins
          rw [List.getElem?_map, List.getElem?_map, hi]
          rfl
        rw [e3]
        exact d1.kp (Kp.of s3)
def sp_Recorder_sources (M : Md) : Sp := fun vs H Q _ => ∃ (a l : Addr) (D : RecD), vs = [.ref a] ∧ IsRec M H a l D ∧ D.Ok ∧ D.done.length ≤ 1000 ∧ Pr (PD M (dI (effL D.R.n D.ins))) H Q
abbrev N_Recorder_sources : List Str := ["self"]
def t_Recorder_sources (M : Md) : TS := (tRet (tCall (sp_effect_of M) [] E0 (tCons (tFld M.K (tVar 0) "ring") (tCons (tMeth M.recd "recorded" (sp_Recorder_recorded M) [] E0 (tVar 0) tNil) tNil))))
theorem ins_bound {D : RecD} (h : D.Ok) : ∀ i ∈ D.ins, 0 ≤ i.1 ∧ i.1 < (D.R.n : Int) := fun i hi => by
  unfold RecD.ins at hi
  obtain ⟨p, hp, rfl⟩ := List.mem_map.mp hi
  exact h.d p hp
theorem rd_Recorder_sources {M : Md} (C : CCls M) {vs : List V} {H : Hp} {Q : VK} {E : XK} (h : sp_Recorder_sources M vs H Q E) : t_Recorder_sources M { nx := fun _ H' => Q .non H', rt := Q } (start N_Recorder_sources vs) H := by
  obtain ⟨a, l, D, rfl, hr, ok, hd, q⟩ := h
  refine s_ret (P := PD M (dI (effL D.R.n D.ins))) (fun Q' q' => ?_) q
  have e1 : Ev (tFld M.K (tVar 0) "ring") (start N_Recorder_sources [.ref a]) H (PR M D.R) := ev_rring C (ev_rec rfl hr)
  refine a_call (a_cons (e1 _ fun rv H1 s1 h1 => a_cons ⟨_, rfl, ?_⟩))
  obtain ⟨dx, rv', g1, g2⟩ := id (hr.s s1)
  refine ⟨a, dx, _, rfl, g1, recFs_no _ _ _ _ _ (by decide +kernel) (by decide +kernel) (by decide +kernel) (by decide +kernel) (by decide +kernel), a, l, D, rfl, hr.s s1, hd, fun y H2 s2 hy => ?_⟩
  exact ⟨rv, y, D.R, D.ins, rfl, h1.kp (Kp.of s2), ok.R, hy, ins_bound ok, fun v H' s e => q' v H' ((s1.trans s2).trans s) e⟩
/-- the price -/
def RecD.cost (D : RecD) : Int := (D.ins.map fun i => D.R.prices.getD i.1.toNat 0).sum
def sp_Recorder_spent (M : Md) : Sp := fun vs H Q _ => ∃ (a l : Addr) (D : RecD), vs = [.ref a] ∧ IsRec M H a l D ∧ D.Ok ∧ D.done.length ≤ 1000 ∧ Pr (PI D.cost) H Q
abbrev N_Recorder_spent : List Str := ["self", "place", "side", "letters"]
def t_Recorder_spent (M : Md) : TS := (tRet (tCB (rSum M.K) (tCons (tLc (iList M.K (tFld M.K (tVar 0) "done")) (gTup M.K 2 (gCons (gTup M.K 2 (gCons (gName 1) (gCons (gName 2) gNil))) (gCons (gName 3) gNil))) tYes (tOp (rIxT M.K) (tFld M.K (tFld M.K (tVar 0) "ring") "prices") (tVar 1)) [3, 1, 2]) tNil)))
theorem ev_sum {M : Md} {σ : L2.St} {H : Hp} {te : TE} {ns : List Int} (h : Ev te σ H (PL M (ns.map PyData.int))) : Ev (tCB (rSum M.K) (tCons te tNil)) σ H (PI ns.sum) := fun Q q =>
  h _ fun x H1 s1 ⟨p, xs, e, h1, h2⟩ => by
    subst e
    rw [DtA.of_ints h2] at h1
    exact ⟨p, ns, rfl, SqL.of h1, q _ _ s1 rfl⟩
theorem rd_Recorder_spent {M : Md} (C : CCls M) (CR : RCls M) {vs : List V} {H : Hp} {Q : VK} {E : XK} (h : sp_Recorder_spent M vs H Q E) : t_Recorder_spent M { nx := fun _ H' => Q .non H', rt := Q } (start N_Recorder_spent vs) H := by
  obtain ⟨a, l, D, rfl, hr, ok, hd, q⟩ := h
  refine s_ret (P := PI D.cost) (ev_sum ?_) q
  have hL := evl_list (M := M) (σ := start N_Recorder_spent [.ref a]) (H := H) (ts := tFld M.K (tVar 0) "done") (ev_rdone C (ev_rec rfl hr))
  rw [List.length_map] at hL
  have e := ev_lc (M := M) (σ := start N_Recorder_spent [.ref a]) (H := H) (keep := fun _ => true) (g := gTup M.K 2 (gCons (gTup M.K 2 (gCons (gName 1) (gCons (gName 2) gNil))) (gCons (gName 3) gNil))) (tt := tYes) (te := tOp (rIxT M.K) (tFld M.K (tFld M.K (tVar 0) "ring") "prices") (tVar 1)) (vs := [3, 1, 2])
    (e := fun j => (((D.ins.map fun i => D.R.prices.getD i.1.toNat 0).map PyData.int)[j]?).getD .none) hL ?_ (by omega)
  · rw [List.filter_eq_self.mpr (fun _ _ => rfl)] at e
    have e2 : (List.range D.done.length).map (fun j => (((D.ins.map fun i => D.R.prices.getD i.1.toNat 0).map PyData.int)[j]?).getD .none) = (D.ins.map fun i => D.R.prices.getD i.1.toNat 0).map PyData.int := by
      have z := map_range_get (n := D.done.length) (f := fun j => (((D.ins.map fun i => D.R.prices.getD i.1.toNat 0).map PyData.int)[j]?).getD .none) (xs := (D.ins.map fun i => D.R.prices.getD i.1.toNat 0).map PyData.int) (h := id) (by unfold RecD.ins; rw [List.length_map, List.length_map, List.length_map]) (fun i a h => by rw [h]; rfl)
      rw [z, List.map_id]
    rw [e2] at e
    exact e
  · intro j x H1 hj s1 y R k
    obtain ⟨d, hd', hx⟩ := y
    obtain ⟨i, z, hi, rfl⟩ := done_get hd'
    have hib : 0 ≤ i.1 ∧ i.1 < (D.R.n : Int) := ok.d _ (List.mem_of_getElem? hi)
    have pl := ok.R.pl
    obtain ⟨b, xs, rfl, hs, hda⟩ := Dt.sq hx
    cases hda with
    | cons d1 hda =>
      cases hda with
      | cons d2 hda =>
        cases hda
        obtain ⟨c, rfl, hc⟩ := ins_sq d1
        refine ⟨b, _, rfl, hs, rfl, _, _, rfl, ⟨c, _, rfl, hc, rfl, _, _, rfl, _, _, rfl, rfl, ?_⟩⟩
        refine ⟨_, _, rfl, rfl, ?_⟩
        refine k _ H1 (Same.refl _) rfl eb_yes fun _ H3 s3 => ?_
        have e3 : (((D.ins.map fun i => D.R.prices.getD i.1.toNat 0).map PyData.int)[j]?).getD .none = .int (D.R.prices.getD i.1.toNat 0) := by
          unfold RecD.ins
          rw [List.getElem?_map, List.getElem?_map, List.getElem?_map, hi]
          rfl
        rw [e3]
        refine ev_ix (ev_prices CR (ev_rring C (ev_rec rfl (hr.s (s1.trans s3))))) (fun _ _ => ev_slot rfl) (at_nat hib.1 ?_)
        rw [List.getElem?_map, List.getD_eq_getElem?_getD, List.getElem?_eq_getElem (by omega)]
        rfl

/-! ### write -/
def RecD.wrote (D : RecD) (i : Ins) : RecD := { D with z := gatS D.z (stepL 0 D.R.n i (upTo D.R.n)), done := D.done ++ [(i, D.z)] }
def sp_Recorder_write (M : Md) : Sp := fun vs H Q _ => ∃ (a l : Addr) (D : RecD) (x : V) (i : Ins), vs = [.ref a, x] ∧ IsRec M H a l D ∧ D.Ok ∧ D.done.length < 400 ∧ Dt M H x (insD i) ∧ 0 ≤ i.1 ∧ i.1 < (D.R.n : Int) ∧ okB D.R i = true ∧
  ∀ H', (∀ b o, b ≠ a → b ≠ l → H b = some o → H' b = some o) → IsRec M H' a l (D.wrote i) → Q .non H'
abbrev N_Recorder_write : List Str := ["self", "instruction"]
def t_Recorder_write (M : Md) : TS := (tSeq (tIfS (tNot (tB (tMeth M.ring "allows" (sp_Ring_allows M) [] E0 (tFld M.K (tVar 0) "ring") (tCons (tVar 1) tNil)))) tNever tNext)
  (tSeq (tIfS (tTest (tOp rGe (tCB (rLenQ M.K) (tCons (tFld M.K (tVar 0) "done") tNil)) (tC (.int 400)))) tNever tNext)
  (tSeq (tDrop (tBM M.K "list" rAppend (tFld M.K (tVar 0) "done") (tCons (tTup (tCons (tVar 1) (tCons (tFld M.K (tVar 0) "letters") tNil))) tNil)))
  (sFld M.K (tVar 0) (tCall (sp_letters_of M) [] E0 (tCons (tCall (sp_after M) [] E0 (tCons (tCall (sp_identity_of M) [] E0 (tCons (tFld M.K (tVar 0) "ring") tNil)) (tCons (tVar 1) (tCons (tFld M.K (tFld M.K (tVar 0) "ring") "size") tNil)))) (tCons (tFld M.K (tVar 0) "letters") tNil))) "letters"))))
theorem putF_letters (rv : V) (z z' : Str) (l : Addr) (run : Bool) (runs : Int) : putF "letters" (.str z') (recFs rv z l run runs) = recFs rv z' l run runs := by
  obtain ⟨n1, n2, n3, n4, n5, n6, n7, n8, n9, n10⟩ := str_rec
  simp only [recFs, putF, n3, n6, n8, if_false, ite_false, ite_true, if_true]
theorem rd_Recorder_write {M : Md} (C : CCls M) (CR : RCls M) (hne : M.recd ≠ M.ring) {vs : List V} {H : Hp} {Q : VK} {E : XK} (h : sp_Recorder_write M vs H Q E) : t_Recorder_write M { nx := fun _ H' => Q .non H', rt := Q } (start N_Recorder_write vs) H := by
  obtain ⟨a, l, D, x, i, rfl, hr, ok, hd, hx, i0, i1, hok, q⟩ := h
  have n2 := ok.R.n2
  have n12 := ok.R.n12
  have hal : a ≠ l := fun e => by
    obtain ⟨dx, rv, h1, h2, xs, h3, h4⟩ := hr
    rw [e, h3] at h1
    cases h1
  -- it is allowed
  have e1 : EvB (tNot (tB (tMeth M.ring "allows" (sp_Ring_allows M) [] E0 (tFld M.K (tVar 0) "ring") (tCons (tVar 1) tNil)))) (start N_Recorder_write [.ref a, x]) H false := by
    refine (eb_not (b := true) (eb_val fun Q' q' => ?_)).to rfl
    have e : Ev (tFld M.K (tVar 0) "ring") (start N_Recorder_write [.ref a, x]) H (PR M D.R) := ev_rring C (ev_rec rfl hr)
    refine e _ fun rv H1 s1 h1 => ?_
    obtain ⟨b, dx, w1, w2, w3, rfl, g1, g2⟩ := id h1
    refine ⟨b, dx, _, rfl, g1, ringFs_no _ _ _ _ (by decide +kernel) (by decide +kernel) (by decide +kernel) (by decide +kernel), _, rfl, ?_⟩
    refine ⟨_, x, D.R, i, rfl, h1, ok.R, hx.kp (Kp.of s1), i0, i1, fun v H' s e => q' v H' (s1.trans s) ?_⟩
    rw [hok] at e
    exact e
  refine q_no e1 fun H1 s1 => ?_
  refine q_no (eb_test (Ev.toB (ev_i0 (g := fun i j => .bl (decide (j ≤ i))) (ev_lenL (ev_rdone C (ev_rec rfl (hr.s s1)))) (fun _ _ => ev_c rfl)) ?_)) fun H2 s2 => ?_
  · rw [List.length_map]
    exact decide_eq_false (by omega)
  have s12 : Same H H2 := s1.trans s2
  -- the row grows
  refine q_seq ?_
  have e3 : Ev (tFld M.K (tVar 0) "done") (start N_Recorder_write [.ref a, x]) H2 (fun v H' => v = .ref l ∧ IsRec M H' a l D) := ev_rdoneA C (ev_rec rfl (hr.s s12))
  refine a_drop (a_bm (e3 _ fun v H3 s3 h3 => ?_))
  obtain ⟨rfl, hr3⟩ := h3
  have hl3 : ∃ xs, H3 l = some (.lst xs) := by
    obtain ⟨dx, rv, h1, h2, xs, h3, h4⟩ := hr3
    exact ⟨xs, h3⟩
  refine ⟨tyV_lst (SqL.of hl3.choose_spec), ?_⟩
  have s13 : Same H H3 := s12.trans s3
  have e4 : Ev (tTup (tCons (tVar 1) (tCons (tFld M.K (tVar 0) "letters") tNil))) (start N_Recorder_write [.ref a, x]) H3 (PD M (doneD (i, D.z))) :=
    ev_tup (ea1 (ev_var rfl (hx.kp (Kp.of s13))) fun H5 s5 => ea1 (.dS (ev_rletters C (ev_rec rfl (hr3.s s5)))) fun _ _ => ea0) (by show 2 ≤ 1000000; omega)
  refine a_cons (e4 _ fun y H4 s4 hy => ?_)
  obtain ⟨dx, rv, g1, g2, xs, g3, g4⟩ := hr3.s s4
  have lx : xs.length = D.done.length := by rw [g4.len, List.length_map]
  refine ⟨l, xs, y, rfl, rfl, g3, Nat.lt_of_le_of_lt (m := 1000) (by omega) (by decide), ?_⟩
  have s14 : Same H H4 := s13.trans s4
  have kA : Kp M H4 (upd H4 l (.lst (xs ++ [y]))) := Kp.lst g3
  have hr5 : IsRec M (upd H4 l (.lst (xs ++ [y]))) a l { D with done := D.done ++ [(i, D.z)] } := by
    refine ⟨dx, rv, (upd_ne hal).trans g1, g2.kp kA, _, upd_same, ?_⟩
    show DtA M _ _ ((D.done ++ [(i, D.z)]).map doneD)
    rw [List.map_append]
    exact (DtA.kp kA g4).app (.cons (hy.kp kA) .nil)
  have kp5 : ∀ b o, b ≠ l → H b = some o → (upd H4 l (.lst (xs ++ [y]))) b = some o := fun b o hb e => by
    rw [upd_ne hb]
    exact s14 _ _ e
  have hx5 : Dt M (upd H4 l (.lst (xs ++ [y]))) x (insD i) := (hx.kp (Kp.of s14)).kp kA
  generalize upd H4 l (.lst (xs ++ [y])) = H5 at hr5 kp5 hx5 ⊢
  -- the letters
  have pre := stepL_len (0 : Int) i0 i1 (upTo_len D.R.n)
  have mem := stepL_mem (d := (0 : Int)) (i := i) (P := fun x => 0 ≤ x ∧ x < (D.R.n : Int)) n2 (upTo_len D.R.n) upTo_mem
  have e6 : Ev (tCall (sp_letters_of M) [] E0 (tCons (tCall (sp_after M) [] E0 (tCons (tCall (sp_identity_of M) [] E0 (tCons (tFld M.K (tVar 0) "ring") tNil)) (tCons (tVar 1) (tCons (tFld M.K (tFld M.K (tVar 0) "ring") "size") tNil)))) (tCons (tFld M.K (tVar 0) "letters") tNil))) (start N_Recorder_write [.ref a, x]) H5 (PV (.str (gatS D.z (stepL 0 D.R.n i (upTo D.R.n))))) := fun Q' q' => by
    have r1 : Ev (tFld M.K (tVar 0) "ring") (start N_Recorder_write [.ref a, x]) H5 (PR M D.R) := ev_rring (D := { D with done := D.done ++ [(i, D.z)] }) C (ev_rec rfl hr5)
    refine r1 _ fun rv H6 s6 h6 => ⟨rv, D.R, rfl, h6, ok.R, fun m H7 s7 h7 => ⟨x, rfl, ?_⟩⟩
    have s57 : Same H5 H7 := s6.trans s7
    have r2 : Ev (tFld M.K (tFld M.K (tVar 0) "ring") "size") (start N_Recorder_write [.ref a, x]) H7 (PI D.R.n) := ev_size CR (ev_rring (D := { D with done := D.done ++ [(i, D.z)] }) C (ev_rec rfl (hr5.s s57)))
    refine r2 _ fun w H8 s8 h8 => ⟨m, x, (upTo D.R.n).map PyData.int, i, D.R.n, by rw [show w = V.int (D.R.n : Nat) from h8]; rfl, h7.kp (Kp.of s8), hx5.kp (Kp.of (s57.trans s8)), by rw [List.length_map, upTo_len], n2, n12, i0, i1, fun m' H9 s9 h9 => ?_⟩
    have s59 : Same H5 H9 := (s57.trans s8).trans s9
    have r3 : Ev (tFld M.K (tVar 0) "letters") (start N_Recorder_write [.ref a, x]) H9 (PV (.str D.z)) := ev_rletters (D := { D with done := D.done ++ [(i, D.z)] }) C (ev_rec rfl (hr5.s s59))
    refine r3 _ fun z H10 s10 h10 => ⟨m', stepL 0 D.R.n i (upTo D.R.n), D.z, by rw [show z = V.str D.z from h10]; rfl, ?_, ?_, by omega, by rw [ok.z.len]; omega, fun v H' s e => q' v H' ((s59.trans s10).trans s) e⟩
    · have h9' : Dt M H10 m' (.tuple (stepL .none D.R.n i ((upTo D.R.n).map PyData.int))) := h9.kp (Kp.of s10)
      rw [stepL_any _ (PyData.int 0) n2 i (by rw [List.length_map, upTo_len]), ← stepL_map] at h9'
      exact h9'
    · rw [ok.z.len]
      exact mem
  refine e6 _ fun v H6 s6 h6 => ⟨_, rfl, ?_⟩
  obtain rfl : v = .str (gatS D.z (stepL 0 D.R.n i (upTo D.R.n))) := h6
  obtain ⟨dx', rv', f1, f2, ys, f3, f4⟩ := hr5.s s6
  refine ⟨a, M.recd, dx', _, rfl, f1, C.cl, C.nL, (by show 5 < 1000; omega), ?_⟩
  rw [putF_letters]
  have kB : Kp M H6 (upd H6 a (.ins M.recd dx' (recFs rv' (gatS D.z (stepL 0 D.R.n i (upTo D.R.n))) l D.run D.runs))) := Kp.upd f1 (fun _ z => nomatch z) (fun _ _ z => nomatch z) (fun _ _ z => hne (HO.ins.inj z).1)
  refine q _ (fun b o ha hl e => ?_) ⟨dx', rv', upd_same, f2.kp kB, ys, (upd_ne (Ne.symm hal)).trans f3, DtA.kp kB f4⟩
  rw [upd_ne ha]
  exact s6 _ _ (kp5 b o hl e)
end Crx

set_option maxHeartbeats 4000000
/-! L65a: the recorder laws' numbers, rings, contents. -/
namespace Crx
open PySem PySem.Spec PyProof.Rows L2 RZ

section
variable {M : Md} {σ : L2.St} {H : Hp} {ta tb te : TE} {A B C : Int → Prop}
/-! ints, of which only what A says is told -/
theorem evx_int {i : Int} (h : Ev te σ H (PI i)) (hA : A i) : Ev te σ H (IntP A) := h.imp fun v H' _ e => ⟨i, e, hA⟩
theorem evx_i0 {g : Int → Int → Int} (ha : Ev ta σ H (IntP A)) (hb : ∀ H1, Same H H1 → Ev tb σ H1 (IntP B)) (hg : ∀ i j, A i → B j → C (g i j)) : Ev (tOp (rI0 fun i j => .int (g i j)) ta tb) σ H (IntP C) := fun Q q =>
  ha _ fun x H1 s1 ⟨i, e1, h1⟩ => hb H1 s1 _ fun y H2 s2 ⟨j, e2, h2⟩ => ⟨i, j, e1, e2, q _ H2 (s1.trans s2) ⟨_, rfl, hg i j h1 h2⟩⟩
theorem evx_i {g : Int → Int → Int} {Cn : Int → Int → Prop} (ha : Ev ta σ H (IntP A)) (hb : ∀ H1, Same H H1 → Ev tb σ H1 (IntP B)) (hc : ∀ i j, A i → B j → Cn i j) (hg : ∀ i j, A i → B j → C (g i j)) : Ev (tOp (rI Cn fun i j => .int (g i j)) ta tb) σ H (IntP C) := fun Q q =>
  ha _ fun x H1 s1 ⟨i, e1, h1⟩ => hb H1 s1 _ fun y H2 s2 ⟨j, e2, h2⟩ => ⟨i, j, e1, e2, hc i j h1 h2, q _ H2 (s1.trans s2) ⟨_, rfl, hg i j h1 h2⟩⟩
theorem evx_c {i : Int} (hA : A i) : Ev (tC (.int i)) σ H (IntP A) := evx_int (ev_c rfl) hA
end
abbrev AnyI : Int → Prop := fun _ => True
theorem mul_r {j : Int} (h : -(2 ^ 64) < j ∧ j < 2 ^ 64) (i : Int) : CMul i j := .inr h
theorem mul_l {i : Int} (h : -(2 ^ 64) < i ∧ i < 2 ^ 64) (j : Int) : CMul i j := .inl h

/-! ### the script's cells -/
def sp_law_cell (M : Md) : Sp := fun vs H Q _ => ∃ (a : Addr) (ns : List Int) (k : Nat), vs = [.ref a, .int (k : Nat)] ∧ SqL M.K H a (ns.map V.int) ∧ k ≤ 1000 ∧ Pr (IntP AnyI) H Q
abbrev N_law_cell : List Str := ["_law_script", "_law_k", "_law_mixed", "_law_cell_here"]
def t_law_cell (M : Md) : TS := (tSeq (tIfS (tTest (tOp rLt (tVar 1) (tCB (rLenQ M.K) (tCons (tVar 0) tNil)))) (tRet (tOp (rIxL M.K) (tVar 0) (tVar 1))) tNext)
  (tSeq (tAsg (tOp rModI (tOp rMulI (tC (.int 70009)) (tOp rAddI (tOp rAddI (tOp rMulI (tVar 1) (tVar 1)) (tOp rMulI (tC (.int 13)) (tVar 1))) (tC (.int 11)))) (tC (.int 1000000093))) (gName 2))
  (tSeq (tFor (iList M.K (tSl (rSlL M.K) (tVar 0) tNoPart (tPart (tC (.int 4))))) (gName 3) (tAsg (tOp rModI (tOp rAddI (tOp rMulI (tVar 2) (tC (.int 40013))) (tVar 3)) (tC (.int 1000000093))) (gName 2)))
  (tRet (tVar 2)))))
theorem rd_law_cell {M : Md} {vs : List V} {H : Hp} {Q : VK} {E : XK} (h : sp_law_cell M vs H Q E) : t_law_cell M { nx := fun _ H' => Q .non H', rt := Q } (start N_law_cell vs) H := by
  obtain ⟨a, ns, k, rfl, ha, hk, q⟩ := h
  have el : ∀ {σ : L2.St} {H1 : Hp}, σ[0]? = some (some (.ref a)) → Same H H1 → Ev (tCB (rLenQ M.K) (tCons (tVar 0) tNil)) σ H1 (PI ns.length) := fun e s Q' q' => ⟨_, e, a, ns.map V.int, rfl, .inl (s.seq ha), q' _ _ (Same.refl _) (by rw [List.length_map])⟩
  refine q_if (b := decide ((k : Int) < (ns.length : Nat))) (eb_test (ev_i0 (g := fun i j => .bl (decide (i < j))) (ev_slot rfl) fun H1 s1 => el rfl s1)) (fun e H1 s1 => ?_) (fun e H1 s1 => ?_)
  · have hk' : k < ns.length := by have := of_decide_eq_true e; omega
    refine s_ret (P := IntP AnyI) (fun Q' q' => ⟨_, rfl, _, rfl, a, _, _, .int ns[k], rfl, rfl, s1.seq ha, at_nat (Int.natCast_nonneg k) ?_, q' _ _ (Same.refl _) ⟨_, rfl, trivial⟩⟩) (q.s s1)
    rw [Int.toNat_natCast, List.getElem?_map, List.getElem?_eq_getElem hk']
    rfl
  · refine q_set (P := IntP AnyI) ?_ fun v H2 s2 hv => ?_
    · refine evx_i (A := AnyI) (B := fun j => j = 1000000093) (evx_i (A := fun i => i = 70009) (B := AnyI) (evx_c rfl) (fun _ _ => evx_i0 (A := AnyI) (B := AnyI) (evx_i0 (A := AnyI) (B := AnyI) (evx_i (A := fun i => i = (k : Int)) (B := fun i => i = (k : Int)) (evx_int (ev_slot rfl) rfl) (fun _ _ => evx_int (ev_slot rfl) rfl) (fun i j h1 h2 => mul_l (by omega) _) fun _ _ _ _ => trivial)
        (fun _ _ => evx_i (A := fun i => i = 13) (B := AnyI) (evx_c rfl) (fun _ _ => evx_int (ev_slot rfl) trivial) (fun i j h1 h2 => mul_l (by omega) _) fun _ _ _ _ => trivial) fun _ _ _ _ => trivial) (fun _ _ => evx_c trivial) fun _ _ _ _ => trivial) (fun i j h1 h2 => mul_l (by omega) _) fun _ _ _ _ => trivial) (fun _ _ => evx_c rfl) (fun i j h1 h2 => by omega) fun _ _ _ _ => trivial
    obtain ⟨m, rfl, _⟩ := hv
    refine q_seq ?_
    have s12 : Same H H2 := s1.trans s2
    have hL : EvL (iList M.K (tSl (rSlL M.K) (tVar 0) tNoPart (tPart (tC (.int 4))))) ((start N_law_cell [.ref a, .int (k : Nat)]).set 2 (some (.int m))) H2 (cutD (ns.map PyData.int) none (some 4)).length fun i x H' => ∃ d, (cutD (ns.map PyData.int) none (some 4))[i]? = some d ∧ Dt M H' x d := by
      refine evl_list (M := M) fun Q' q' => ⟨_, rfl, _, rfl, a, _, rfl, s12.seq ha, fun p hp => q' _ _ (same_new hp) ⟨p, _, rfl, upd_same, ?_⟩⟩
      have hd : DtA M (upd H2 p (.lst (cutV (ns.map V.int) none (some 4)))) (ns.map V.int) (ns.map PyData.int) := .ints ns
      have e : cutD (ns.map PyData.int) none (some 4) = ((ns.map PyData.int).drop (HT.sIx (ns.map V.int).length 0 none)).take (HT.sIx (ns.map V.int).length (ns.map V.int).length (some 4) - HT.sIx (ns.map V.int).length 0 none) := by
        unfold cutD
        rw [List.length_map, List.length_map]
      rw [e]
      exact (hd.drop _).take _
    refine s_for hL (fun j σ' Ha Hb => Same Ha Hb ∧ ∃ (m : Int) (c : Option V), σ' = [some (.ref a), some (.int (k : Nat)), some (.int m), c]) ?_ (fun _ _ _ _ w => w.1) ?_ ?_
    · exact fun Ha s => ⟨Same.refl _, m, none, rfl⟩
    · intro j x σ' Ha Hb Hc hj sa w sb y
      obtain ⟨sw, m', c, e⟩ := w
      subst e
      obtain ⟨d, hd, hx⟩ := y
      have hi : ∃ i, d = .int i := by
        have hm : d ∈ ns.map PyData.int := by
          have := List.mem_of_getElem? hd
          unfold cutD at this
          exact List.mem_of_mem_drop (List.mem_of_mem_take this)
        obtain ⟨i, _, rfl⟩ := List.mem_map.mp hm
        exact ⟨i, rfl⟩
      obtain ⟨i, rfl⟩ := hi
      cases hx
      show tAsg _ (gName 2) _ _ _
      refine s_set (P := IntP AnyI) ?_ fun v H3 s3 hv => ?_
      · exact evx_i (A := AnyI) (B := fun j => j = 1000000093) (evx_i0 (A := AnyI) (B := AnyI) (evx_i (A := AnyI) (B := fun j => j = 40013) (evx_int (ev_slot rfl) trivial) (fun _ _ => evx_c rfl) (fun i j h1 h2 => mul_r (by omega) _) fun _ _ _ _ => trivial) (fun _ _ => evx_int (ev_slot rfl) trivial) fun _ _ _ _ => trivial) (fun _ _ => evx_c rfl) (fun i j h1 h2 => by omega) fun _ _ _ _ => trivial
      · obtain ⟨m2, rfl, _⟩ := hv
        exact ⟨(sw.trans sb).trans s3, m2, _, rfl⟩
    · rintro σ' Ha Hb sa ⟨sw, m', c, rfl⟩
      exact s_end (t := tRet (tVar 2)) rfl (s_ret (P := IntP AnyI) (evx_int (ev_slot rfl) trivial) (q.s ((s12.trans sa).trans sw)))

/-! ### the source of numbers -/
def sp_law_source (M : Md) : Sp := fun vs H Q _ => ∃ i : Int, vs = [.int i] ∧ ∀ v H' a, Same H H' → v = .ref a → H a = none → Src H' a → Q v H'
abbrev N_law_source : List Str := ["_law_cell_here", "_law_digits"]
def t_law_source (M : Md) : TS := (tSeq (tAsg (tIf (tOr (tTest (tOp rLt (tVar 0) (tC (.int 0)))) (tTest (tOp rGe (tVar 0) (tOp rPowI (tC (.int 10)) (tC (.int 18)))))) (tCB rAbs (tCons (tVar 0) tNil)) (tC (.int 0))) (gName 1))
  (tRet (tLst (tCons (tVar 1) (tCons (tOp rAddI (tOp rMulI (tOp rModI (tVar 0) (tC (.int 1000000093))) (tC (.int 6007))) (tC (.int 3011))) (tCons (tC (.int 0)) tNil))))))
theorem rd_law_source {M : Md} {vs : List V} {H : Hp} {Q : VK} {E : XK} (h : sp_law_source M vs H Q E) : t_law_source M { nx := fun _ H' => Q .non H', rt := Q } (start N_law_source vs) H := by
  obtain ⟨i, rfl, q⟩ := h
  refine q_set (P := IntP AnyI) ?_ fun v H1 s1 hv => ?_
  · refine ev_if (b := decide (i < 0) || decide (10 ^ 18 ≤ i)) (eb_or (b := decide (i < 0)) (c := decide ((10 : Int) ^ 18 ≤ i)) (eb_test (ev_i0 (g := fun i j => .bl (decide (i < j))) (ev_slot rfl) fun _ _ => ev_c rfl)) fun _ H2 s2 =>
      eb_test (ev_i0 (g := fun i j => .bl (decide (j ≤ i))) (ev_slot rfl) fun _ _ => ev_i (g := fun i j => .int (i ^ j.toNat)) (ev_c rfl) (fun _ _ => ev_c rfl) ⟨by decide, by decide, by decide⟩)) (fun _ H2 s2 Q' q' => ⟨_, rfl, i, rfl, q' _ _ (Same.refl _) ⟨_, rfl, trivial⟩⟩) fun _ H2 s2 => evx_c trivial
  obtain ⟨m, rfl, _⟩ := hv
  have e : Ev (tOp rAddI (tOp rMulI (tOp rModI (tVar 0) (tC (.int 1000000093))) (tC (.int 6007))) (tC (.int 3011))) ((start N_law_source [.int i]).set 1 (some (.int m))) H1 (IntP AnyI) :=
    evx_i0 (A := AnyI) (B := AnyI) (evx_i (A := AnyI) (B := fun j => j = 6007) (evx_i (A := AnyI) (B := fun j => j = 1000000093) (evx_int (ev_slot rfl) trivial) (fun _ _ => evx_c rfl) (fun i j h1 h2 => by omega) fun _ _ _ _ => trivial) (fun _ _ => evx_c rfl) (fun i j h1 h2 => mul_r (by omega) _) fun _ _ _ _ => trivial) (fun _ _ => evx_c trivial) fun _ _ _ _ => trivial
  refine ⟨_, rfl, e _ fun v H2 s2 ⟨n, hv, _⟩ => ⟨Nat.le_of_lt (Nat.lt_of_lt_of_le (show 3 < 1000000 by decide) (by decide)), fun p hp => ?_⟩⟩
  subst hv
  have s12 : Same H H2 := s1.trans s2
  refine q _ _ p (s12.trans (same_new hp)) rfl ?_ ⟨m, n, 0, upd_same⟩
  cases e : H p with
  | none => rfl
  | some o =>
    have := s12 _ _ e
    rw [hp] at this
    cases this
/-- a number from 0 to m - 1 -/
def sp_law_draw (M : Md) : Sp := fun vs H Q _ => ∃ (a : Addr) (m : Int), vs = [.ref a, .int m] ∧ Src H a ∧ 0 < m ∧ m < 1000000 ∧ ∀ v H', Dr a H H' → IntP (fun i => 0 ≤ i ∧ i < m) v H' → Q v H'
abbrev N_law_draw : List Str := ["_law_source_here", "_law_size", "_law_digit", "_law_state_here"]
def t_law_draw (M : Md) : TS := (tSeq (tAsg (tOp rAddI (tOp (rIxL M.K) (tVar 0) (tC (.int 2))) (tC (.int 1))) (gSub (tVar 0) (tC (.int 2)) rSetL))
  (tSeq (tIfS (tTest (tOp rGt (tOp (rIxL M.K) (tVar 0) (tC (.int 0))) (tC (.int 0)))) (tSeq (tAsg (tCB rDivmod (tCons (tOp (rIxL M.K) (tVar 0) (tC (.int 0))) (tCons (tVar 1) tNil))) (gTup M.K 2 (gCons (gSub (tVar 0) (tC (.int 0)) rSetL) (gCons (gName 2) gNil))))
  (tRet (tVar 2))) tNext)
  (tSeq (tAsg (tOp rModI (tOp (rIxL M.K) (tVar 0) (tC (.int 1))) (tC (.int 1000000093))) (gName 3))
  (tSeq (tAsg (tOp rAddI (tOp rMulI (tVar 3) (tOp rAddI (tOp rModI (tVar 3) (tC (.int 47017))) (tC (.int 30011)))) (tOp rMulI (tC (.int 80021)) (tOp (rIxL M.K) (tVar 0) (tC (.int 2))))) (gSub (tVar 0) (tC (.int 1)) rSetL))
  (tRet (tOp rModI (tOp rDivI (tOp rModI (tOp (rIxL M.K) (tVar 0) (tC (.int 1))) (tC (.int 1000000093))) (tC (.int 32))) (tVar 1)))))))
theorem rd_law_draw {M : Md} {vs : List V} {H : Hp} {Q : VK} {E : XK} (h : sp_law_draw M vs H Q E) : t_law_draw M { nx := fun _ H' => Q .non H', rt := Q } (start N_law_draw vs) H := by
  obtain ⟨a, m, rfl, ⟨x, y, z, ha⟩, m0, m1, q⟩ := h
  have to1 : ∀ {H : Hp} {o : HO}, To a H (upd H a o) := fun {H o} => To.app
  have sq : ∀ {H : Hp} {xs : List V}, SqL M.K (upd H a (.lst xs)) a xs := SqL.of upd_same
  refine ⟨_, rfl, _, _, _, _, rfl, rfl, SqL.of ha, rfl, _, _, rfl, rfl, _, rfl, a, _, 2, 2, rfl, rfl, ha, rfl, ?_⟩
  show tSeq (tIfS (tTest (tOp rGt (tOp (rIxL M.K) (tVar 0) (tC (V.int 0))) (tC (V.int 0)))) _ tNext) _ { nx := fun _ H' => Q .non H', rt := Q } (start N_law_draw [.ref a, .int m]) (upd H a (.lst [.int x, .int y, .int (z + 1)]))
  refine q_if (b := decide (0 < x)) (eb_test fun Q' q' => ⟨_, rfl, _, _, 0, _, rfl, rfl, sq, rfl, x, 0, rfl, rfl, q' _ _ (Same.refl _) rfl⟩) (fun e H1 s1 => ?_) (fun e H1 s1 => ?_)
  · have h1 := s1 _ _ (upd_same (H := H) (a := a) (o := .lst [.int x, .int y, .int (z + 1)]))
    refine ⟨_, rfl, _, _, 0, _, rfl, rfl, SqL.of h1, rfl, _, rfl, x, m, rfl, ⟨m0, by omega⟩, fun p hp => ?_⟩
    have hpa : p ≠ a := fun z => by rw [z, h1] at hp; cases hp
    refine ⟨p, _, rfl, .inl (.inl upd_same), rfl, _, _, rfl, ⟨_, rfl, a, _, 0, 0, rfl, rfl, (upd_ne (Ne.symm hpa)).trans h1, rfl, _, _, rfl, rfl, _, rfl, ?_⟩⟩
    refine q _ _ ⟨fun b o hb eb => ?_, _, _, _, upd_same⟩ ⟨_, rfl, Int.emod_nonneg _ (by omega), Int.emod_lt_of_pos _ m0⟩
    have hbp : b ≠ p := fun z => by
      have := s1 b o (by rw [upd_ne hb]; exact eb)
      rw [z, hp] at this
      cases this
    rw [upd_ne hb, upd_ne hbp]
    exact s1 b o (by rw [upd_ne hb]; exact eb)
  · have h1 := s1 _ _ (upd_same (H := H) (a := a) (o := .lst [.int x, .int y, .int (z + 1)]))
    have keep : ∀ b o, b ≠ a → H b = some o → H1 b = some o := fun b o hb eb => s1 b o (by rw [upd_ne hb]; exact eb)
    refine ⟨_, rfl, _, _, 1, _, rfl, rfl, SqL.of h1, rfl, _, _, rfl, rfl, (by show (0 : Int) < 1000000093; decide), ?_⟩
    refine ⟨_, rfl, _, rfl, _, _, rfl, rfl, (by show (0 : Int) < 47017; decide), _, _, rfl, rfl, _, _, rfl, rfl, ?_, _, rfl, _, _, 2, _, rfl, rfl, SqL.of h1, rfl, _, _, rfl, rfl, mul_l (by decide) _, _, _, rfl, rfl, _, rfl, a, _, 1, 1, rfl, rfl, h1, rfl, ?_⟩
    · refine mul_r ?_ _
      have h0 := Int.emod_nonneg (y % 1000000093) (show (47017 : Int) ≠ 0 by decide)
      have h2 := Int.emod_lt_of_pos (y % 1000000093) (show (0 : Int) < 47017 by decide)
      constructor
      · omega
      · omega
    · refine ⟨_, rfl, _, _, 1, _, rfl, rfl, sq, rfl, _, _, rfl, rfl, (by show (0 : Int) < 1000000093; decide), _, _, rfl, rfl, ⟨by decide, by decide⟩, _, rfl, _, _, rfl, rfl, m0, ?_⟩
      exact q _ _ ⟨fun b o hb eb => by rw [upd_ne hb]; exact keep b o hb eb, _, _, _, upd_same⟩ ⟨_, rfl, Int.emod_nonneg _ (by omega), Int.emod_lt_of_pos _ m0⟩
end Crx

set_option maxHeartbeats 4000000
/-! L65b: drawn rings, instructions, contents. -/
namespace Crx
open PySem PySem.Spec PyProof.Rows L2 RZ

theorem a_tc {σ : L2.St} {H : Hp} {r : R1} {t : TA} {Q : VK} (h : t σ H fun vs H1 => r vs H1 Q) : tCB r t σ H Q := h
theorem nx_go {X : L2.St → Hp → Prop} {rt : VK} {bk ct : L2.St → Hp → Prop} {σ : L2.St} {H : Hp} (h : X σ H) : Ends.nx ⟨X, rt, bk, ct⟩ σ H := h
section
variable {M : Md} {σ : L2.St} {H : Hp} {a : Addr} {ta tb te : TE} {A B : Int → Prop} {m : Int}
/-- draw(source, m) -/
theorem et_draw {i : Nat} (hs : Src H a) (hv : σ[i]? = some (some (.ref a))) (hb : Ev tb σ H (IntP fun j => j = m)) (m0 : 0 < m) (m1 : m < 1000000) : EvT a (tCall (sp_law_draw M) [] E0 (tCons (tVar i) (tCons tb tNil))) σ H (IntP fun i => 0 ≤ i ∧ i < m) := fun Q q =>
  ⟨_, hv, hb _ fun y H1 s1 ⟨j, e, ej⟩ => ⟨a, m, by rw [e, ej]; rfl, hs.s s1, m0, m1, fun v H' d p => q v H' ((Dr.of hs s1).trans d) p⟩⟩
theorem ev_eqI {i : Int} (h : Ev te σ H (PI i)) : Ev te σ H (IntP fun j => j = i) := evx_int h rfl
theorem EvT.set {D : Ends} {P : V → Hp → Prop} {i : Nat} (h : EvT a te σ H P) (k : ∀ v H', Dr a H H' → P v H' → D.nx (σ.set i (some v)) H') : tAsg te (gName i) D σ H := h _ k
theorem q_setT {D : Ends} {P : V → Hp → Prop} {i : Nat} {u : TS} (h : EvT a te σ H P) (k : ∀ v H', Dr a H H' → P v H' → u D (σ.set i (some v)) H') : tSeq (tAsg te (gName i)) u D σ H := h _ k
end

/-! ### a drawn ring -/
def landD (R : RingD) : List PyData := [.int R.n, dI R.locks, dI R.walls, dI R.prices]
theorem sub_asc {n : Nat} {ks : List Nat} (h : ks.Sublist (List.range n)) : Asc (ks.map Int.ofNat) 0 ((n : Int) - 1) := by
  refine ⟨fun i hi => ?_, ?_⟩
  · obtain ⟨k, hk, rfl⟩ := List.mem_map.mp hi
    have := List.mem_range.mp (h.mem hk)
    exact ⟨Int.natCast_nonneg k, by show (k : Int) ≤ _; omega⟩
  · rw [List.pairwise_map]
    exact (List.pairwise_lt_range.sublist h).imp fun {a b} hab => Int.ofNat_lt.mpr hab
/-- drawn places: ascending -/
def RelAsc (i : Nat) (ds : List PyData) : Prop := ∃ ks : List Nat, ks.Sublist (List.range i) ∧ ds = (ks.map Int.ofNat).map PyData.int
theorem RelAsc.zero : RelAsc 0 [] := ⟨[], .slnil, rfl⟩
theorem RelAsc.no {i : Nat} {ds : List PyData} (h : RelAsc i ds) : RelAsc (i + 1) ds := by
  obtain ⟨ks, h1, h2⟩ := h
  exact ⟨ks, by rw [List.range_succ]; exact h1.trans (List.sublist_append_left _ _), h2⟩
theorem RelAsc.yes {i : Nat} {ds : List PyData} (h : RelAsc i ds) : RelAsc (i + 1) (ds ++ [.int (i : Nat)]) := by
  obtain ⟨ks, h1, rfl⟩ := h
  refine ⟨ks ++ [i], by rw [List.range_succ]; exact h1.append (List.Sublist.refl _), ?_⟩
  rw [List.map_append, List.map_append]
  rfl
/-- drawn prices -/
def RelPay (i : Nat) (ds : List PyData) : Prop := ∃ ps : List Int, ps.length = i ∧ (∀ p ∈ ps, 1 ≤ p ∧ p ≤ 999) ∧ ds = ps.map PyData.int
theorem RelPay.zero : RelPay 0 [] := ⟨[], rfl, (fun _ h => nomatch h), rfl⟩
theorem RelPay.yes {i : Nat} {ds : List PyData} {p : Int} (h : RelPay i ds) (hp : 1 ≤ p ∧ p ≤ 999) : RelPay (i + 1) (ds ++ [.int p]) := by
  obtain ⟨ps, h1, h2, rfl⟩ := h
  refine ⟨ps ++ [p], by rw [List.length_append, h1]; rfl, fun x hx => ?_, by rw [List.map_append]; rfl⟩
  rcases List.mem_append.mp hx with hx | hx
  · exact h2 x hx
  · rw [List.mem_singleton.mp hx]
    exact hp
theorem range_any {σ : L2.St} {H : Hp} {te : TE} {a : Addr} {n : Nat} (hs : Src H a) (h : Ev te σ H (PI (n : Int))) : EvT a te σ H (IntP fun i => i = (n : Int)) := et_int hs h rfl
def sp_law_land (M : Md) : Sp := fun vs H Q _ => ∃ a : Addr, vs = [.ref a, .int 2, .int 12] ∧ Src H a ∧ ∀ v H', Dr a H H' → (∃ p R, v = .ref p ∧ p ≠ a ∧ R.Ok ∧ LstAt M H' p (landD R)) → Q v H'
abbrev N_law_land : List Str := ["_law_source_here", "_law_least", "_law_most", "_law_many", "_law_way", "_law_fixed", "_law_spot", "_law_barred", "_law_worth"]
def t_law_land (M : Md) : TS := (tSeq (tAsg (tTup (tCons (tOp rAddI (tVar 1) (tCall (sp_law_draw M) [] E0 (tCons (tVar 0) (tCons (tOp rAddI (tOp rSubI (tVar 2) (tVar 1)) (tC (.int 1))) tNil)))) (tCons (tCall (sp_law_draw M) [] E0 (tCons (tVar 0) (tCons (tC (.int 8)) tNil))) tNil))) (gTup M.K 2 (gCons (gName 3) (gCons (gName 4) gNil))))
  (tSeq (tAsg (tLc (iRng1 (tCons (tVar 3) tNil)) (gName 6) (tAnd (tTest (tOp (rIn M.K false) (tVar 4) (tTup (tCons (tC (.int 4)) (tCons (tC (.int 6)) (tCons (tC (.int 7)) tNil)))))) (tTest (tOp rEq (tCall (sp_law_draw M) [] E0 (tCons (tVar 0) (tCons (tC (.int 3)) tNil))) (tC (.int 0))))) (tVar 6) [6]) (gName 5))
  (tSeq (tAsg (tLc (iRng1 (tCons (tVar 3) tNil)) (gName 6) (tAnd (tTest (tOp (rIn M.K false) (tVar 4) (tTup (tCons (tC (.int 5)) (tCons (tC (.int 6)) (tCons (tC (.int 7)) tNil)))))) (tTest (tOp rEq (tCall (sp_law_draw M) [] E0 (tCons (tVar 0) (tCons (tC (.int 3)) tNil))) (tC (.int 0))))) (tVar 6) [6]) (gName 7))
  (tSeq (tIfS (tTest (tOp rEq (tVar 4) (tC (.int 2)))) (tAsg (tLst (tCons (tCall (sp_law_draw M) [] E0 (tCons (tVar 0) (tCons (tVar 3) tNil))) tNil)) (gName 5)) tNext)
  (tSeq (tIfS (tTest (tOp rEq (tVar 4) (tC (.int 3)))) (tAsg (tLst (tCons (tCall (sp_law_draw M) [] E0 (tCons (tVar 0) (tCons (tVar 3) tNil))) tNil)) (gName 7)) tNext)
  (tSeq (tAsg (tOp (rIxL M.K) (tLst (tCons (tC (.int 1)) (tCons (tC (.int 9)) (tCons (tC (.int 999)) tNil)))) (tCall (sp_law_draw M) [] E0 (tCons (tVar 0) (tCons (tC (.int 3)) tNil)))) (gName 8))
  (tRet (tLst (tCons (tVar 3) (tCons (tCB (rTupOf M.K) (tCons (tVar 5) tNil)) (tCons (tCB (rTupOf M.K) (tCons (tVar 7) tNil)) (tCons (tCB (rTupOf M.K) (tCons (tLc (iRng1 (tCons (tVar 3) tNil)) (gName 6) tYes (tOp rAddI (tC (.int 1)) (tCall (sp_law_draw M) [] E0 (tCons (tVar 0) (tCons (tVar 8) tNil)))) [6]) tNil)) tNil))))))))))))
/-- [spot for spot in range(n) if way in (..) and draw(source, 3) == 0] -/
theorem et_spots {M : Md} {H : Hp} {a : Addr} {σ : L2.St} {way n : Nat} {w1 w2 w3 : Int} (hs : Src H a) (h0 : ∀ x, ((wipe σ [6]).set 6 x)[0]? = some (some (.ref a))) (h3 : σ[3]? = some (some (.int (n : Nat)))) (h4 : ∀ x, ((wipe σ [6]).set 6 x)[4]? = some (some (.int (way : Nat)))) (hn : n ≤ 12) (hl : σ.length = 9) :
    EvT a (tLc (iRng1 (tCons (tVar 3) tNil)) (gName 6) (tAnd (tTest (tOp (rIn M.K false) (tVar 4) (tTup (tCons (tC (.int w1)) (tCons (tC (.int w2)) (tCons (tC (.int w3)) tNil)))))) (tTest (tOp rEq (tCall (sp_law_draw M) [] E0 (tCons (tVar 0) (tCons (tC (.int 3)) tNil))) (tC (.int 0))))) (tVar 6) [6]) σ H
      (fun v H' => ∃ ns : List Int, Asc ns 0 ((n : Int) - 1) ∧ ns.length ≤ n ∧ PLN M a (ns.map PyData.int) v H') := by
  refine EvT.imp (et_lc (M := M) (n := n) (Rel := RelAsc) hs (range_any hs (ev_slot h3)) (by omega) .zero (fun x => wipe_set1 x) (fun i ds H1 hi hR d => ?_) (fun i ds H1 hi hR d => ?_)) fun v H' _ ⟨ds, ⟨ks, hk, e⟩, hl', hp⟩ => ⟨ks.map Int.ofNat, sub_asc hk, ?_, e ▸ hp⟩
  · have e := etb_and (a := a) (σ := (wipe σ [6]).set 6 (some (.int (i : Nat)))) (H := H1) (tt := tTest (tOp (rIn M.K false) (tVar 4) (tTup (tCons (tC (.int w1)) (tCons (tC (.int w2)) (tCons (tC (.int w3)) tNil)))))) (tu := tTest (tOp rEq (tCall (sp_law_draw M) [] E0 (tCons (tVar 0) (tCons (tC (.int 3)) tNil))) (tC (.int 0))))
      (etb_of d.sr (b := decide ((way : Int) ∈ [w1, w2, w3])) (eb_test (ev_inI (ns := [w1, w2, w3]) (ev_slot (h4 _)) fun _ _ => ev_tup (ea1 (.dI (ev_c rfl)) fun _ _ => ea1 (.dI (ev_c rfl)) fun _ _ => ea1 (.dI (ev_c rfl)) fun _ _ => ea0) (by show 3 ≤ 1000000; omega))) trivial)
      fun H2 d2 => etb_any (et_eq (et_draw d2.sr (h0 _) (ev_eqI (ev_c rfl)) (by decide) (by decide)) fun H3 S3 => ev_c rfl)
    exact fun Q q => e Q fun b H' d' _ => q b H' d' fun _ => hR.no
  · exact EvT.of d.sr (Ev.imp (ev_slot (v := .int (i : Nat)) (List.getElem?_set_self (by rw [wipe_length, hl]; decide))) fun v H' _ e => ⟨.int (i : Nat), by rw [show v = V.int (i : Nat) from e]; exact .int _, hR.yes⟩)
  · rw [e, List.length_map, List.length_map] at hl'
    rw [List.length_map]
    exact hl'
/-- a list of ascending places -/
abbrev Fx (M : Md) (a : Addr) (n : Nat) : V → Hp → Prop := fun v H => ∃ ns : List Int, Asc ns 0 ((n : Int) - 1) ∧ ns.length ≤ n ∧ PLN M a (ns.map PyData.int) v H
theorem Fx.dr {M : Md} {a : Addr} {n : Nat} {v : V} {H H' : Hp} (h : Fx M a n v H) (hs : Src H a) (d : Dr a H H') : Fx M a n v H' := by
  obtain ⟨ns, h1, h2, p, e, hp, hl⟩ := h
  exact ⟨ns, h1, h2, p, e, hp, hl.dr hs hp d⟩
theorem et_one {M : Md} {H : Hp} {a : Addr} {σ : L2.St} {n : Nat} (hs : Src H a) (h0 : σ[0]? = some (some (.ref a))) (h3 : σ[3]? = some (some (.int (n : Nat)))) (n1 : 1 ≤ n) (n12 : n ≤ 12) :
    EvT a (tLst (tCons (tCall (sp_law_draw M) [] E0 (tCons (tVar 0) (tCons (tVar 3) tNil))) tNil)) σ H (Fx M a n) := fun Q q => by
  refine (et_draw (m := (n : Int)) hs h0 (ev_eqI (ev_slot h3)) (by omega) (by omega)) _ fun v H1 d1 ⟨i, e, h1, h2⟩ => ⟨Nat.le_of_lt (Nat.lt_of_lt_of_le (show 1 < 1000000 by decide) (by decide)), fun p hp => ?_⟩
  subst e
  refine q _ _ (d1.then (same_new hp)) ⟨[i], ⟨fun j hj => by rw [List.mem_singleton.mp hj]; omega, List.pairwise_singleton _ _⟩, n1, p, rfl, d1.sr.ne hp, _, upd_same, .cons (.int i) .nil⟩
/-- the reading's end -/
abbrev landT (M : Md) : TS :=
    tSeq (tAsg (tOp (rIxL M.K) (tLst (tCons (tC (.int 1)) (tCons (tC (.int 9)) (tCons (tC (.int 999)) tNil)))) (tCall (sp_law_draw M) [] E0 (tCons (tVar 0) (tCons (tC (.int 3)) tNil)))) (gName 8))
      (tRet (tLst (tCons (tVar 3) (tCons (tCB (rTupOf M.K) (tCons (tVar 5) tNil)) (tCons (tCB (rTupOf M.K) (tCons (tVar 7) tNil)) (tCons (tCB (rTupOf M.K) (tCons (tLc (iRng1 (tCons (tVar 3) tNil)) (gName 6) tYes (tOp rAddI (tC (.int 1)) (tCall (sp_law_draw M) [] E0 (tCons (tVar 0) (tCons (tVar 8) tNil)))) [6]) tNil)) tNil))))))
theorem land_end {M : Md} {H : Hp} {a : Addr} {n way : Nat} {v5 v7 : V} {Q : VK} (hs : Src H a) (n2 : 2 ≤ n) (n12 : n ≤ 12) (h5 : Fx M a n v5 H) (h7 : Fx M a n v7 H) (q : ∀ v H', Dr a H H' → (∃ p R, v = .ref p ∧ p ≠ a ∧ R.Ok ∧ LstAt M H' p (landD R)) → Q v H') :
    landT M
      { nx := fun _ H' => Q .non H', rt := Q } [some (.ref a), some (.int 2), some (.int 12), some (.int (n : Nat)), some (.int (way : Nat)), some v5, none, some v7, none] H := by
  refine q_setT (et_pick (ns := [1, 9, 999]) hs (fun Q h => h) (fun H1 S1 => et_draw S1 rfl (ev_eqI (ev_c rfl)) (by decide) (by decide)) (by decide)) fun v H1 d1 ⟨wo, e, hw⟩ => ?_
  subst e
  have hwo : 1 ≤ wo ∧ wo ≤ 999 := by
    simp only [List.mem_cons, List.not_mem_nil, or_false] at hw
    omega
  obtain ⟨ns, asc, ln, p5, rfl, hp5, l5⟩ := h5.dr hs d1
  obtain ⟨ms, asc', lm, p7, rfl, hp7, l7⟩ := h7.dr hs d1
  -- the two tuples
  have e5 : Ev (tCB (rTupOf M.K) (tCons (tVar 5) tNil)) [some (.ref a), some (.int 2), some (.int 12), some (.int (n : Nat)), some (.int (way : Nat)), some (.ref p5), none, some (.ref p7), some (.int wo)] H1 (PD M (dI ns)) := ev_tupL (ev_lstAt rfl l5)
  refine ⟨_, rfl, e5 _ fun x5 H2 s2 h5 => ?_⟩
  have e7 : Ev (tCB (rTupOf M.K) (tCons (tVar 7) tNil)) [some (.ref a), some (.int 2), some (.int 12), some (.int (n : Nat)), some (.int (way : Nat)), some (.ref p5), none, some (.ref p7), some (.int wo)] H2 (PD M (dI ms)) := ev_tupL (ev_lstAt rfl (l7.s s2))
  refine a_cons (e7 _ fun x7 H3 s3 h7 => ?_)
  have d3 : Dr a H H3 := d1.then (s2.trans s3)
  -- the prices
  have e8 : EvT a (tLc (iRng1 (tCons (tVar 3) tNil)) (gName 6) tYes (tOp rAddI (tC (.int 1)) (tCall (sp_law_draw M) [] E0 (tCons (tVar 0) (tCons (tVar 8) tNil)))) [6]) [some (.ref a), some (.int 2), some (.int 12), some (.int (n : Nat)), some (.int (way : Nat)), some (.ref p5), none, some (.ref p7), some (.int wo)] H3 (fun v H' => ∃ ds, RelPay n ds ∧ ds.length ≤ n ∧ PLN M a ds v H') :=
    et_lc (M := M) (n := n) (Rel := RelPay) d3.sr (range_any d3.sr (ev_slot rfl)) (by omega) .zero (fun x => wipe_set1 x) (fun i ds H1 hi hR d => fun Q' q' => q' true _ d.sr.dr fun z => nomatch z) fun i ds H1 hi hR d =>
      EvT.imp (et_i0 (A := fun i => i = 1) (B := fun i => 0 ≤ i ∧ i < wo) (C := fun i => 1 ≤ i ∧ i ≤ 999) (et_int d.sr (ev_c rfl) rfl) (fun H4 d4 => et_draw d4.sr rfl (ev_eqI (ev_slot rfl)) (by omega) (by omega)) fun i j h1 h2 => by omega) fun v H' _ ⟨k, e, hk⟩ => ⟨.int k, by rw [e]; exact .int k, hR.yes hk⟩
  refine a_cons (a_tc (a_cons (e8 _ fun v8 H4 d4 h8 => ?_)))
  obtain ⟨ds, ⟨ps, lp, hps, rfl⟩, _, p8, rfl, hp8, xs8, g1, g2⟩ := h8
  refine ⟨p8, xs8, rfl, .inl ⟨SqL.of g1, fun r hr => ?_⟩⟩
  have sn : Same H4 (upd H4 r (.tup xs8)) := same_new hr
  refine ⟨Nat.le_of_lt (Nat.lt_of_lt_of_le (show 4 < 1000000 by decide) (by decide)), fun p hp => ?_⟩
  have sp : Same (upd H4 r (.tup xs8)) (upd (upd H4 r (.tup xs8)) p (.lst [.int (n : Nat), x5, x7, .ref r])) := same_new hp
  have d5 : Dr a H (upd (upd H4 r (.tup xs8)) p (.lst [.int (n : Nat), x5, x7, .ref r])) := (d3.trans d4).then (sn.trans sp)
  have k45 : Kp M H4 (upd (upd H4 r (.tup xs8)) p (.lst [.int (n : Nat), x5, x7, .ref r])) := Kp.of (sn.trans sp)
  have k35 : Kp M H3 (upd (upd H4 r (.tup xs8)) p (.lst [.int (n : Nat), x5, x7, .ref r])) := (d3.sr.kp d4).trans k45
  refine q _ _ d5 ⟨p, ⟨n, ns, ms, ps⟩, rfl, fun z => ?_, ⟨n2, n12, asc, asc', lp, hps⟩, _, upd_same, .cons (.int _) (.cons (h5.kp ((Kp.of s3).trans k35)) (.cons (h7.kp k35) (.cons (.tup (.inl (.inl (sp _ _ upd_same))) (DtA.kp k45 g2)) .nil)))⟩
  exact ((d3.trans d4).then sn).sr.ne hp z
theorem rd_law_land {M : Md} {vs : List V} {H : Hp} {Q : VK} {E : XK} (h : sp_law_land M vs H Q E) : t_law_land M { nx := fun _ H' => Q .non H', rt := Q } (start N_law_land vs) H := by
  obtain ⟨a, rfl, hs, q⟩ := h
  -- the number of registers, the way
  have e1 : EvT a (tOp rAddI (tVar 1) (tCall (sp_law_draw M) [] E0 (tCons (tVar 0) (tCons (tOp rAddI (tOp rSubI (tVar 2) (tVar 1)) (tC (.int 1))) tNil)))) (start N_law_land [.ref a, .int 2, .int 12]) H (IntP fun i => 2 ≤ i ∧ i ≤ 12) :=
    et_i0 (A := fun i => i = 2) (B := fun i => 0 ≤ i ∧ i < 11) (et_int hs (ev_slot rfl) rfl) (fun H1 d => et_draw d.sr rfl (ev_eqI (Ev.toI (ev_i0 (g := fun i j => .int (i + j)) (ev_i0 (g := fun i j => .int (i - j)) (ev_slot rfl) fun _ _ => ev_slot rfl) fun _ _ => ev_c rfl) rfl)) (by decide) (by decide)) fun i j h1 h2 => by omega
  refine q_seq (e1 _ fun v H1 d1 ⟨m, hv, hm⟩ => ?_)
  subst hv
  obtain ⟨n, rfl⟩ := Int.eq_ofNat_of_zero_le (show 0 ≤ m by omega)
  have e2 : EvT a (tCall (sp_law_draw M) [] E0 (tCons (tVar 0) (tCons (tC (.int 8)) tNil))) (start N_law_land [.ref a, .int 2, .int 12]) H1 (IntP fun i => 0 ≤ i ∧ i < 8) := et_draw d1.sr rfl (ev_eqI (ev_c rfl)) (by decide) (by decide)
  refine e2 _ fun v H2 d2 ⟨w, hv, hw⟩ => ?_
  subst hv
  obtain ⟨way, rfl⟩ := Int.eq_ofNat_of_zero_le hw.1
  refine ⟨Nat.le_of_lt (Nat.lt_of_lt_of_le (show 2 < 1000000 by decide) (by decide)), fun p hp => ?_⟩
  have sn : Same H2 (upd H2 p (.tup [.int (n : Nat), .int (way : Nat)])) := same_new hp
  have d3 : Dr a H (upd H2 p (.tup [.int (n : Nat), .int (way : Nat)])) := (d1.trans d2).then sn
  refine ⟨p, _, rfl, .inl (.inl upd_same), rfl, _, _, rfl, _, _, rfl, rfl, ?_⟩
  generalize upd H2 p (.tup [.int (n : Nat), .int (way : Nat)]) = H3 at d3 ⊢
  refine nx_go ?_
  have n2 : 2 ≤ n := by omega
  have n12 : n ≤ 12 := by omega
  refine q_setT (et_spots (n := n) (way := way) d3.sr (fun _ => rfl) rfl (fun _ => rfl) n12 rfl) fun v5 H5 d5 h5 => ?_
  refine q_setT (et_spots (n := n) (way := way) d5.sr (fun _ => rfl) rfl (fun _ => rfl) n12 rfl) fun v7 H7 d7 h7 => ?_
  have d7' : Dr a H H7 := d3.trans (d5.trans d7)
  have h5' : Fx M a n v5 H7 := Fx.dr h5 d5.sr d7
  have fin : ∀ {v5 v7 : V} {H8 : Hp}, Dr a H7 H8 → Fx M a n v5 H8 → Fx M a n v7 H8 → _ := fun {v5 v7 H8} d h5 h7 => land_end (way := way) (Q := Q) d.sr n2 n12 h5 h7 fun v H' d' h => q v H' ((d7'.trans d).trans d') h
  have eq4 : ∀ {σ : L2.St} {H8 : Hp} {k : Int}, σ[4]? = some (some (.int (way : Nat))) → EvB (tTest (tOp rEq (tVar 4) (tC (.int k)))) σ H8 (decide (V.int (way : Nat) = V.int k)) := fun e => eb_test (ev_eq (ev_slot e) (fun _ _ => ev_c rfl) rfl)
  have second : ∀ {v5 v7 : V} {H8 : Hp}, Dr a H7 H8 → Fx M a n v5 H8 → Fx M a n v7 H8 → _ := fun {v5 v7 H8} d h5 h7 =>
    q_if (t := tAsg (tLst (tCons (tCall (sp_law_draw M) [] E0 (tCons (tVar 0) (tCons (tVar 3) tNil))) tNil)) (gName 7)) (u := landT M) (D := { nx := fun _ H' => Q .non H', rt := Q }) (σ := [some (.ref a), some (.int 2), some (.int 12), some (.int (n : Nat)), some (.int (way : Nat)), some v5, none, some v7, none]) (eq4 (H8 := H8) (k := 3) rfl)
      (fun _ H9 s9 => et_one (M := M) (n := n) (d.then s9).sr rfl rfl (by omega) n12 _ fun v H10 d10 h10 => fin ((d.then s9).trans d10) (h5.dr d.sr ((Dr.of d.sr s9).trans d10)) h10)
      (fun _ H9 s9 => fin (d.then s9) (h5.dr d.sr (Dr.of d.sr s9)) (h7.dr d.sr (Dr.of d.sr s9)))
  refine q_if (eq4 (k := 2) rfl) (fun _ H9 s9 => ?_) (fun _ H9 s9 => ?_)
  · exact et_one (M := M) (n := n) (d7'.then s9).sr rfl rfl (by omega) n12 _ fun v H10 d10 h10 => second ((Dr.of d7'.sr s9).trans d10) h10 (Fx.dr h7 d7'.sr ((Dr.of d7'.sr s9).trans d10))
  · exact second (Dr.of d7'.sr s9) (Fx.dr h5' d7'.sr (Dr.of d7'.sr s9)) (Fx.dr h7 d7'.sr (Dr.of d7'.sr s9))
end Crx

set_option maxHeartbeats 4000000
/-! L65c: circles, orders, copies, contents, rows. -/
namespace Crx
open PySem PySem.Spec PyProof.Rows L2 RZ

theorem q_ifT {tt : TT} {t u : TS} {D : Ends} {σ : L2.St} {H : Hp} {a : Addr} (h : EvTB a tt σ H fun _ => True) (k1 : ∀ H', Dr a H H' → t { D with nx := u D } σ H') (k2 : ∀ H', Dr a H H' → u D σ H') : tSeq (tIfS tt t tNext) u D σ H := h _ fun b H' d _ => by
  cases b with
  | true =>
    rw [if_pos rfl]
    exact k1 H' d
  | false =>
    rw [if_neg Bool.false_ne_true]
    exact k2 H' d
theorem land_get {M : Md} {H : Hp} {p : Addr} {R : RingD} (h : LstAt M H p (landD R)) : ∃ x1 x2 x3, H p = some (.lst [.int R.n, x1, x2, x3]) ∧ Dt M H x1 (dI R.locks) ∧ Dt M H x2 (dI R.walls) ∧ Dt M H x3 (dI R.prices) := by
  obtain ⟨xs, h1, h2⟩ := h
  unfold landD at h2
  cases h2 with
  | cons a1 h2 =>
    cases a1
    cases h2 with
    | cons a2 h2 =>
      cases h2 with
      | cons a3 h2 =>
        cases h2 with
        | cons a4 h2 =>
          cases h2
          exact ⟨_, _, _, h1, a2, a3, a4⟩
def sp_law_circle (M : Md) : Sp := fun vs H Q _ => ∃ (a p : Addr) (R : RingD), vs = [.ref a, .ref p] ∧ Src H a ∧ p ≠ a ∧ LstAt M H p (landD R) ∧ R.Ok ∧ ∀ v H', Dr a H H' → IsRing M H' v R → Q v H'
abbrev N_law_circle : List Str := ["_law_source_here", "_law_land_here", "_law_many", "_law_fixed", "_law_barred", "_law_fees", "_law_words", "_law_spot", "_law_fee"]
def t_law_circle (M : Md) : TS := (tSeq (tAsg (tVar 1) (gLst M.K 4 (gCons (gName 2) (gCons (gName 3) (gCons (gName 4) (gCons (gName 5) gNil))))))
  (tSeq (tIfS (tTest (tOp rGt (tCall (sp_law_draw M) [] E0 (tCons (tVar 0) (tCons (tC (.int 3)) tNil))) (tC (.int 0)))) (tRet (tMakeK M.ring 1 3 (sp_Ring_init M) (mk_Ring_1_locks_walls_prices_g M) E0 (tCons (tVar 2) tNil) (tCons (tVar 3) (tCons (tVar 4) (tCons (tVar 5) tNil))))) tNext)
  (tSeq (tAsg (tOp rCat (tOp rCat (tLst (tCons (tC (.str "ring")) (tCons (tCB rStrI (tCons (tVar 2) tNil)) (tCons (tC (.str "locks")) tNil)))) (tLc (iTup M.K (tVar 3)) (gName 7) tYes (tCB rStrI (tCons (tVar 7) tNil)) [7])) (tLst (tCons (tC (.str "walls")) tNil))) (gName 6))
  (tSeq (tAsg (tOp rCat (tOp rCat (tOp rCat (tVar 6) (tLc (iTup M.K (tVar 4)) (gName 7) tYes (tCB rStrI (tCons (tVar 7) tNil)) [7])) (tLst (tCons (tC (.str "prices")) tNil))) (tLc (iTup M.K (tVar 5)) (gName 8) tYes (tCB rStrI (tCons (tVar 8) tNil)) [8])) (gName 6))
  (tRet (tCall (sp_parse_ring M) [] E0 (tCons (tM1 (rJoin M.K) (tC (.str " ")) (tVar 6)) tNil)))))))
theorem rd_law_circle {M : Md} {vs : List V} {H : Hp} {Q : VK} {E : XK} (h : sp_law_circle M vs H Q E) : t_law_circle M { nx := fun _ H' => Q .non H', rt := Q } (start N_law_circle vs) H := by
  obtain ⟨a, p, R, rfl, hs, hpa, hl, ok, q⟩ := h
  have n12 := ok.n12
  have l1 := ok.ll
  have l2 := ok.wl'
  have l3 := ok.pl
  obtain ⟨x1, x2, x3, hp, d1, d2, d3⟩ := land_get hl
  refine ⟨_, rfl, p, _, rfl, SqL.of hp, rfl, _, _, rfl, _, _, rfl, _, _, rfl, _, _, rfl, rfl, ?_⟩
  refine nx_go ?_
  show tSeq _ _ _ [some (.ref a), some (.ref p), some (.int R.n), some x1, some x2, some x3, none, none, none] H
  refine q_ifT (a := a) (etb_any (et_gt (et_draw (m := 3) hs rfl (ev_eqI (ev_c rfl)) (by decide) (by decide)) fun H1 S1 => ev_c rfl)) (fun H1 e1 => ?_) (fun H1 e1 => ?_)
  · have e := ev_mkRing13 (M := M) (σ := [some (.ref a), some (.ref p), some (.int R.n), some x1, some x2, some x3, none, none, none]) (H := H1) (n := R.n) (l := R.locks) (w := R.walls) (p := R.prices) (ta := tVar 2) (tl := tVar 3) (tw := tVar 4) (tp := tVar 5) (ev_slot rfl)
      (fun H2 s2 => ev_var rfl ((d1.kp (hs.kp e1)).kp (Kp.of s2))) (fun H2 s2 => ev_var rfl ((d2.kp (hs.kp e1)).kp (Kp.of s2))) (fun H2 s2 => ev_var rfl ((d3.kp (hs.kp e1)).kp (Kp.of s2))) ok.args
    rw [ok.same] at e
    exact e _ fun v H2 s2 hv => q v H2 (e1.then s2) hv
  · have k1 : ∀ {x : V} {d : PyData} {H2 : Hp}, Dt M H x d → Same H1 H2 → Dt M H2 x d := fun h s => (h.kp (hs.kp e1)).kp (Kp.of s)
    refine q_set (P := PL M (([("ring" : Str), numS R.n, ("locks" : Str)] ++ R.locks.map numS ++ [("walls" : Str)]).map PyData.str)) ?_ fun v H2 s2 h2 => ?_
    · rw [List.map_append, List.map_append]
      refine ev_catL (ev_catL (ev_lst (ea1 (Ev.dS (ev_c rfl)) fun H2 s2 => ea1 (Ev.dS (ev_strI (ev_slot (v := .int R.n) rfl) (small_log (by omega) (by omega)))) fun H3 s3 => ea1 (Ev.dS (ev_c rfl)) fun _ _ => ea0) (by show 3 ≤ 1000000; omega)) (fun H2 s2 => ev_strs (j := 7) (ev_var rfl (k1 d1 s2)) (by show 7 < 9; omega) rfl (fun i hi => by have := ok.lock i hi; omega) (by omega)) ?_)
        (fun H2 s2 => ev_lst (ea1 (Ev.dS (ev_c rfl)) fun _ _ => ea0) (by show 1 ≤ 1000000; omega)) ?_
      · simp only [List.length_map, List.length_append, List.length_cons, List.length_nil]
        omega
      · simp only [List.length_map, List.length_append, List.length_cons, List.length_nil]
        omega
    obtain ⟨p1, xs1, rfl, g1, g2⟩ := h2
    refine q_set (P := PL M ((ringWords R).map PyData.str)) ?_ fun v H3 s3 h3 => ?_
    · unfold ringWords
      rw [List.map_append, List.map_append, List.map_append]
      refine ev_catL (ev_catL (ev_catL (ev_var rfl ⟨p1, xs1, rfl, g1, g2⟩) (fun H3 s3 => ev_strs (j := 7) (ev_var rfl (k1 d2 (s2.trans s3))) (by show 7 < 9; omega) rfl (fun i hi => by have := ok.wall i hi; omega) (by omega)) ?_) (fun H3 s3 => ev_lst (ea1 (Ev.dS (ev_c rfl)) fun _ _ => ea0) (by show 1 ≤ 1000000; omega)) ?_)
        (fun H3 s3 => ev_strs (j := 8) (ev_var rfl (k1 d3 (s2.trans s3))) (by show 8 < 9; omega) rfl (fun i hi => by have := ok.pr i hi; omega) (by omega)) ?_
      · simp only [List.length_map, List.length_append, List.length_cons, List.length_nil]
        omega
      · simp only [List.length_map, List.length_append, List.length_cons, List.length_nil]
        omega
      · simp only [List.length_map, List.length_append, List.length_cons, List.length_nil]
        omega
    obtain ⟨p2, xs2, rfl, f1, f2⟩ := h3
    refine a_call (a_cons (ev_join (M := M) (ys := ringWords R) (ev_c rfl) (fun H4 s4 => ev_var rfl ⟨p2, xs2, rfl, s4 _ _ f1, DtA.kp (Kp.of s4) f2⟩) (Nat.le_trans (ringWords_bound ok) (by decide)) _ fun v H4 s4 hv => ?_))
    exact ⟨R, by rw [show v = V.str (Txt.join (" " : Str) (ringWords R)) from hv]; rfl, ok, fun v H' s h => q v H' (e1.then (((s2.trans s3).trans s4).trans s)) h⟩

/-! ### all instructions that a ring allows -/
def Good (R : RingD) (i : Ins) : Prop := 0 ≤ i.1 ∧ i.1 < (R.n : Int) ∧ okB R i = true
def sp_law_orders (M : Md) : Sp := fun vs H Q _ => ∃ (p : Addr) (R : RingD), vs = [.ref p] ∧ LstAt M H p (landD R) ∧ R.Ok ∧ ∀ (v : V) (H' : Hp) (q : Addr) (is : List Ins), Same H H' → v = .ref q → H q = none → LstAt M H' q (is.map insD) → (∀ i ∈ is, Good R i) → is.length ≤ 24 → Q v H'
abbrev N_law_orders : List Str := ["_law_land_here", "_law_found", "_law_many", "_law_spot"]
def t_law_orders (M : Md) : TS := (tSeq (tPar 1 2 (tCons (tLst tNil) (tCons (tOp (rIxL M.K) (tVar 0) (tC (.int 0))) tNil)))
  (tSeq (tFor (iRng1 (tCons (tVar 2) tNil)) (gName 3) (tSeq (tIfS (tAnd (tTest (tOp (rIn M.K true) (tVar 3) (tOp (rIxL M.K) (tVar 0) (tC (.int 1))))) (tTest (tOp (rIn M.K true) (tOp rModI (tOp rSubI (tOp rAddI (tVar 3) (tVar 2)) (tC (.int 1))) (tVar 2)) (tOp (rIxL M.K) (tVar 0) (tC (.int 2)))))) (tDrop (tBM M.K "list" rAppend (tVar 1) (tCons (tTup (tCons (tVar 3) (tCons (tC (.str "left")) tNil))) tNil))) tNext)
  (tIfS (tAnd (tTest (tOp (rIn M.K true) (tVar 3) (tOp (rIxL M.K) (tVar 0) (tC (.int 1))))) (tTest (tOp (rIn M.K true) (tVar 3) (tOp (rIxL M.K) (tVar 0) (tC (.int 2)))))) (tDrop (tBM M.K "list" rAppend (tVar 1) (tCons (tTup (tCons (tVar 3) (tCons (tC (.str "right")) tNil))) tNil))) tNext)))
  (tRet (tVar 1))))
theorem rd_law_orders {M : Md} {vs : List V} {H : Hp} {Q : VK} {E : XK} (h : sp_law_orders M vs H Q E) : t_law_orders M { nx := fun _ H' => Q .non H', rt := Q } (start N_law_orders vs) H := by
  obtain ⟨p, R, rfl, hl, ok, q⟩ := h
  have n2 := ok.n2
  have n12 := ok.n12
  refine q_seq ⟨Nat.zero_le _, fun r hr => ?_⟩
  have hpr : p ≠ r := fun e => by
    obtain ⟨xs, h1, _⟩ := hl
    rw [e, hr] at h1
    cases h1
  have s1 : Same H (upd H r (.lst [])) := same_new hr
  have hl1 := hl.s s1
  refine a_cons (ev_ixL (M := M) (d := .int R.n) (ev_lstAt rfl hl1) (fun _ _ => ev_c rfl) (at_nat (by decide) rfl) _ fun v H2 s2 hv => ⟨_, _, rfl, nx_go ?_⟩)
  cases hv
  have hr2 := s2 _ _ (upd_same (H := H) (a := r) (o := .lst []))
  refine q_seq ?_
  have hI := evi_range (M := M) (σ := [some (.ref p), some (.ref r), some (.int R.n), none]) (H := H2) (ta := tVar 2) (n := (R.n : Int)) (ev_slot rfl)
  rw [Int.toNat_natCast] at hI
  -- the row of orders so far
  have inv : ∀ {Ha : Hp}, Same H2 Ha → Ha r = some (.lst []) := fun s => s _ _ hr2
  refine s_for (hI.mono (k2 := fun H' H'' => Kp M H' H'') fun _ _ h => h) (fun j σ' Ha Hb => To r Ha Hb ∧ Ha r = some (.lst []) ∧ ∃ (u : Option V) (is : List Ins), σ' = [some (.ref p), some (.ref r), some (.int R.n), u] ∧ LstAt M Hb r (is.map insD) ∧ (∀ i ∈ is, Good R i) ∧ is.length ≤ 2 * j) ?_ (fun _ _ Ha Hb w => w.1.kp w.2.1) ?_ ?_
  · exact fun Ha s => ⟨To.refl, inv s, none, [], rfl, ⟨[], inv s, .nil⟩, (fun _ h => nomatch h), Nat.zero_le _⟩
  · intro j x σ' Ha Hb Hc hj sa w sb y
    obtain ⟨t, hz, u, is, e, hb, hg, hlen⟩ := w
    subst e
    obtain rfl : x = .int (j : Nat) := y
    have lp : ∀ {Hd : Hp} {σ : L2.St}, To r Ha Hd → σ[0]? = some (some (.ref p)) → Ev (tVar 0) σ Hd (PL M (landD R)) := fun {Hd σ} td e => ev_lstAt e ((hl1.s (s2.trans sa)).kp (td.kp hz) fun o eo => td _ _ hpr eo)
    have notL : ∀ {σ : L2.St} {Hd : Hp} {tx : TE} {i : Int}, To r Ha Hd → σ[0]? = some (some (.ref p)) → Ev tx σ Hd (PI i) → Ev (tOp (rIn M.K true) tx (tOp (rIxL M.K) (tVar 0) (tC (.int 1)))) σ Hd (PB (!decide (i ∈ R.locks))) := fun td e hx =>
      ev_niI hx fun H5 s5 => ev_ixL (M := M) (d := dI R.locks) (lp (td.trans (To.of s5)) e) (fun _ _ => ev_c rfl) (at_nat (by decide) rfl)
    have notW : ∀ {σ : L2.St} {Hd : Hp} {tx : TE} {i : Int}, To r Ha Hd → σ[0]? = some (some (.ref p)) → Ev tx σ Hd (PI i) → Ev (tOp (rIn M.K true) tx (tOp (rIxL M.K) (tVar 0) (tC (.int 2)))) σ Hd (PB (!decide (i ∈ R.walls))) := fun td e hx =>
      ev_niI hx fun H5 s5 => ev_ixL (M := M) (d := dI R.walls) (lp (td.trans (To.of s5)) e) (fun _ _ => ev_c rfl) (at_nat (by decide) rfl)
    -- one more order, or none
    have put : ∀ {Hd : Hp} {js : List Ins} {l : Bool} {D : Ends} {σ : L2.St}, To r Ha Hd → LstAt M Hd r (js.map insD) → js.length ≤ 100 → σ[1]? = some (some (.ref r)) → σ[3]? = some (some (.int (j : Nat))) →
        (∀ H', To r Ha H' → LstAt M H' r ((js ++ [(((j : Nat) : Int), l)]).map insD) → D.nx σ H') → tDrop (tBM M.K "list" rAppend (tVar 1) (tCons (tTup (tCons (tVar 3) (tCons (tC (.str (sideS l))) tNil))) tNil)) D σ Hd := fun {Hd js l D σ} td hd hlen e1 e3 k => by
      obtain ⟨xs, g1, g2⟩ := hd
      refine s_app (P := PD M (insD (((j : Nat) : Int), l))) e1 g1 (by rw [g2.len, List.length_map]; omega) (ev_tup (ea1 (.dI (ev_slot e3)) fun _ _ => ea1 (.dS (ev_c rfl)) fun _ _ => ea0) (by show 2 ≤ 1000000; omega)) fun v H' s hv => k _ (fun b o hb eb => To.app b o hb (s _ _ (td b o hb eb))) ⟨_, upd_same, ?_⟩
      rw [List.map_append]
      have kA : Kp M H' (upd H' r (.lst (xs ++ [v]))) := Kp.lst (s _ _ g1)
      exact (DtA.kp kA (DtA.kp (Kp.of s) g2)).app (.cons (hv.kp kA) .nil)
    have tc : To r Ha Hc := t.trans (To.of sb)
    have hbc := hb.s sb
    show tSeq (tIfS _ _ tNext) _ _ [some (.ref p), some (.ref r), some (.int R.n), some (.int (j : Nat))] Hc
    have j0 : (0 : Int) ≤ (j : Nat) := Int.natCast_nonneg j
    have jn : ((j : Nat) : Int) < R.n := by omega
    have wl : ((j : Nat) + (R.n : Int) - 1) % R.n = ((j : Nat) - 1) % (R.n : Int) := by
      rw [show ((j : Nat) : Int) + (R.n : Int) - 1 = ((j : Nat) - 1) + (R.n : Int) from by omega, Int.add_emod_right]
    -- the second question
    have second : ∀ {Hd : Hp} {js : List Ins} {D : Ends}, To r Ha Hd → LstAt M Hd r (js.map insD) → (∀ i ∈ js, Good R i) → js.length ≤ 2 * j + 1 →
        (∀ (H' : Hp) (ks : List Ins), To r Ha H' → LstAt M H' r (ks.map insD) → (∀ i ∈ ks, Good R i) → ks.length ≤ 2 * (j + 1) → D.nx [some (.ref p), some (.ref r), some (.int R.n), some (.int (j : Nat))] H') →
        tIfS (tAnd (tTest (tOp (rIn M.K true) (tVar 3) (tOp (rIxL M.K) (tVar 0) (tC (.int 1))))) (tTest (tOp (rIn M.K true) (tVar 3) (tOp (rIxL M.K) (tVar 0) (tC (.int 2)))))) (tDrop (tBM M.K "list" rAppend (tVar 1) (tCons (tTup (tCons (tVar 3) (tCons (tC (.str "right")) tNil))) tNil))) tNext D [some (.ref p), some (.ref r), some (.int R.n), some (.int (j : Nat))] Hd := fun {Hd js D} td hd hg hlen k => by
      refine s_if (b := !decide (((j : Nat) : Int) ∈ R.locks) && !decide (((j : Nat) : Int) ∈ R.walls)) (eb_and (eb_test (notL td rfl (ev_slot rfl))) fun _ H5 s5 => eb_test (notW (td.trans (To.of s5)) rfl (ev_slot rfl))) (fun e H5 s5 => ?_) (fun e H5 s5 => k H5 js (td.trans (To.of s5)) (hd.s s5) hg (by omega))
      refine put (l := false) (td.trans (To.of s5)) (hd.s s5) (by omega) rfl rfl fun H' t' l' => k H' _ t' l' (fun i hi => ?_) (by rw [List.length_append, List.length_singleton]; omega)
      rcases List.mem_append.mp hi with hi | hi
      · exact hg i hi
      · rw [List.mem_singleton.mp hi]
        exact ⟨j0, jn, by unfold okB wallOf; exact e⟩
    refine q_seq (s_if (b := !decide (((j : Nat) : Int) ∈ R.locks) && !decide (((j : Nat) - 1) % (R.n : Int) ∈ R.walls)) (eb_and (eb_test (notL tc rfl (ev_slot rfl))) fun _ H5 s5 => eb_test (notW (tc.trans (To.of s5)) rfl (Ev.toI (ev_i (g := fun i j => .int (i % j)) (ev_i0 (g := fun i j => .int (i - j)) (ev_i0 (g := fun i j => .int (i + j)) (ev_slot rfl) fun _ _ => ev_slot rfl) fun _ _ => ev_c rfl) (fun _ _ => ev_slot rfl) (by omega)) wl))) (fun e H5 s5 => ?_) (fun e H5 s5 => ?_))
    · refine put (l := true) (tc.trans (To.of s5)) (hbc.s s5) (by omega) rfl rfl fun H' t' l' => nx_go ?_
      refine second t' l' (fun i hi => ?_) (by rw [List.length_append, List.length_singleton]; omega) fun H'' ks t'' l'' g'' n'' => ⟨t'', hz, _, ks, rfl, l'', g'', n''⟩
      rcases List.mem_append.mp hi with hi | hi
      · exact hg i hi
      · rw [List.mem_singleton.mp hi]
        exact ⟨j0, jn, by unfold okB wallOf; rw [if_pos rfl]; exact e⟩
    · exact second (tc.trans (To.of s5)) (hbc.s s5) hg (by omega) fun H'' ks t'' l'' g'' n'' => ⟨t'', hz, _, ks, rfl, l'', g'', n''⟩
  · rintro σ' Ha Hb sa ⟨t, hz, u, is, rfl, hb, hg, hlen⟩
    have sH : Same H Hb := fun b o e => t b o (fun z => by rw [z, hr] at e; cases e) (sa _ _ (s2 _ _ (s1 _ _ e)))
    exact s_end (t := tRet (tVar 1)) rfl ⟨_, rfl, q _ _ r is sH rfl hr hb hg (by omega)⟩
end Crx

set_option maxHeartbeats 4000000
/-! L65d: copies, contents, rows. -/
namespace Crx
open PySem PySem.Spec PyProof.Rows L2 RZ

/-! ### a tuple behind one copy -/
def sp_law_copied (M : Md) : Sp := fun vs H Q _ => ∃ (x y : V) (ds : List PyData) (i : Ins), ∃ n : Nat, vs = [x, y] ∧ Dt M H x (.tuple ds) ∧ Dt M H y (insD i) ∧ ds.length = n ∧ 2 ≤ n ∧ n ≤ 12 ∧ 0 ≤ i.1 ∧ i.1 < n ∧ Pr (PD M (.tuple (stepL .none n i ds))) H Q
abbrev N_law_copied : List Str := ["_law_values", "_law_order", "_law_spot", "_law_many", "_law_beside"]
def t_law_copied (M : Md) : TS := (tSeq (tPar 2 3 (tCons (tOp (rIxT M.K) (tVar 1) (tC (.int 0))) (tCons (tCB (rLenQ M.K) (tCons (tVar 0) tNil)) tNil)))
  (tSeq (tAsg (tIf (tTest (tOp rEq (tOp (rIxT M.K) (tVar 1) (tC (.int 1))) (tC (.str "left")))) (tOp (rIxT M.K) (tVar 0) (tOp rModI (tOp rSubI (tOp rAddI (tVar 2) (tVar 3)) (tC (.int 1))) (tVar 3))) (tOp (rIxT M.K) (tVar 0) (tOp rModI (tOp rAddI (tVar 2) (tC (.int 1))) (tVar 3)))) (gName 4))
  (tRet (tOp (rCatA M.K) (tOp (rCatA M.K) (tSl (rSlA M.K) (tVar 0) tNoPart (tPart (tVar 2))) (tTup (tCons (tVar 4) tNil))) (tSl (rSlA M.K) (tVar 0) (tPart (tOp rAddI (tVar 2) (tC (.int 1)))) tNoPart)))))
theorem rd_law_copied {M : Md} {vs : List V} {H : Hp} {Q : VK} {E : XK} (h : sp_law_copied M vs H Q E) : t_law_copied M { nx := fun _ H' => Q .non H', rt := Q } (start N_law_copied vs) H := by
  obtain ⟨x, y, ds, i, n, rfl, hx, hy, hl, n2, n12, i0, i1, q⟩ := h
  have hb := next_bound n2 i
  have hp : ((i.1.toNat : Nat) : Int) = i.1 := Int.toNat_of_nonneg i0
  have kx : ∀ {σ : L2.St} {H1 : Hp}, σ[0]? = some (some x) → Same H H1 → Ev (tVar 0) σ H1 (PD M (.tuple ds)) := fun e s => ev_var e (hx.kp (Kp.of s))
  have ky : ∀ {σ : L2.St} {H1 : Hp}, σ[1]? = some (some y) → Same H H1 → Ev (tVar 1) σ H1 (PD M (insD i)) := fun e s => ev_var e (hy.kp (Kp.of s))
  have e1 : Ev (tOp (rIxT M.K) (tVar 1) (tC (.int 0))) (start N_law_copied [x, y]) H (PI i.1) := Ev.iD (ev_ix (d := .int i.1) (ky rfl (Same.refl _)) (fun _ _ => ev_c rfl) (at_nat (by decide) rfl))
  refine q_seq (e1 _ fun v H1 s1 hv => ?_)
  obtain rfl : v = .int i.1 := hv
  have e2 : Ev (tCB (rLenQ M.K) (tCons (tVar 0) tNil)) (start N_law_copied [x, y]) H1 (PI (n : Int)) := Ev.toI (ev_lenT (kx rfl s1)) (by rw [hl])
  refine a_cons (e2 _ fun v H2 s2 hv => ⟨_, _, rfl, nx_go ?_⟩)
  obtain rfl : v = .int n := hv
  have s12 : Same H H2 := s1.trans s2
  have hgetD : ds[(nextOf n i).toNat]? = some (ds.getD (nextOf n i).toNat .none) := by rw [List.getD_eq_getElem?_getD, List.getElem?_eq_getElem (by omega), Option.getD_some]
  refine q_set (P := PD M (ds.getD (nextOf n i).toNat .none)) ?_ fun v H3 s3 hv => ?_
  · refine ev_if (b := i.2) (eb_test (Ev.toB (ev_eq (Ev.sD (ev_ix (d := .str (sideS i.2)) (ky rfl s12) (fun _ _ => ev_c rfl) (at_nat (by decide) rfl))) (fun _ _ => ev_c rfl) rfl) ?_)) (fun e H5 s5 => ?_) (fun e H5 s5 => ?_)
    · exact (decide_eq_decide.mpr ⟨fun e => V.str.inj e, fun e => congrArg V.str e⟩).trans (side_left i.2)
    · refine ev_ix (i := nextOf n i) (kx rfl (s12.trans s5)) (fun H6 s6 => Ev.toI (ev_i (g := fun i j => .int (i % j)) (ev_i0 (g := fun i j => .int (i - j)) (ev_i0 (g := fun i j => .int (i + j)) (ev_slot rfl) fun _ _ => ev_slot rfl) fun _ _ => ev_c rfl) (fun _ _ => ev_slot rfl) (by omega)) ?_) (at_nat hb.1 hgetD)
      unfold nextOf
      rw [if_pos e, show i.1 + (n : Int) - 1 = (i.1 - 1) + (n : Int) from by omega, Int.add_emod_right]
    · refine ev_ix (i := nextOf n i) (kx rfl (s12.trans s5)) (fun H6 s6 => Ev.toI (ev_i (g := fun i j => .int (i % j)) (ev_i0 (g := fun i j => .int (i + j)) (ev_slot rfl) fun _ _ => ev_c rfl) (fun _ _ => ev_slot rfl) (by omega)) ?_) (at_nat hb.1 hgetD)
      unfold nextOf
      rw [if_neg (by rw [e]; exact Bool.false_ne_true)]
  have s13 : Same H H3 := s12.trans s3
  refine s_ret (P := PD M (.tuple (stepL .none n i ds))) ?_ (q.s s13)
  unfold stepL
  refine ev_cat (ev_cat ?_ (fun H4 s4 => ev_tup (ea1 (ev_var rfl (hv.kp (Kp.of s4))) fun _ _ => ea0) (by show 1 ≤ 1000000; omega)) ?_) (fun H4 s4 => ?_) ?_
  · rw [← cut_to ds (p := i.1.toNat) (by omega), hp]
    exact ev_slice (kx rfl s13) (fun _ _ => ep_none) (fun _ _ => ep_some (ev_slot rfl))
  · rw [List.length_take, List.length_singleton]
    omega
  · rw [← cut_from ds (p := i.1.toNat + 1) (by omega)]
    exact ev_slice (kx rfl (s13.trans s4)) (fun _ _ => ep_some (Ev.toI (ev_i0 (g := fun i j => .int (i + j)) (ev_slot rfl) (fun _ _ => ev_c rfl)) (by omega))) (fun _ _ => ep_none)
  · rw [List.length_append, List.length_take, List.length_singleton, List.length_drop]
    omega

/-! ### a content -/
theorem az_at {i : Nat} (h : i < 26) : ("abcdefghijklmnopqrstuvwxyz" : Str).cps.toList[i]? = some (97 + i) := by
  rw [az_all, List.getElem?_map, List.getElem?_range h, Nat.add_comm]
  rfl
theorem az_len : ("abcdefghijklmnopqrstuvwxyz" : Str).length = 26 ∧ ("abcdefghijklmnopqrstuvwxyz" : Str).cps.toList.length = 26 := by decide +kernel
/-- letters so far -/
def RelAz (i : Nat) (ds : List PyData) : Prop := ∃ cs : List Nat, cs.length = i ∧ (∀ c ∈ cs, 97 ≤ c ∧ c ≤ 122) ∧ ds = (cs.map fun c => (⟨#[c]⟩ : Str)).map PyData.str
theorem RelAz.zero : RelAz 0 [] := ⟨[], rfl, (fun _ h => nomatch h), rfl⟩
theorem RelAz.yes {i : Nat} {ds : List PyData} {c : Nat} (h : RelAz i ds) (hc : 97 ≤ c ∧ c ≤ 122) : RelAz (i + 1) (ds ++ [.str ⟨#[c]⟩]) := by
  obtain ⟨cs, h1, h2, rfl⟩ := h
  refine ⟨cs ++ [c], by rw [List.length_append, h1]; rfl, fun x hx => ?_, by rw [List.map_append, List.map_append]; rfl⟩
  rcases List.mem_append.mp hx with hx | hx
  · exact h2 x hx
  · rw [List.mem_singleton.mp hx]
    exact hc
def sp_law_filled (M : Md) : Sp := fun vs H Q _ => ∃ (a : Addr) (n : Nat), vs = [.ref a, .int n] ∧ Src H a ∧ 2 ≤ n ∧ n ≤ 12 ∧ ∀ v H', Dr a H H' → (∃ z, v = .str z ∧ Letters n z) → Q v H'
abbrev N_law_filled : List Str := ["_law_source_here", "_law_many", "_law_letters", "_law_begin", "_law_span", "_law_spot"]
def t_law_filled (M : Md) : TS := (tSeq (tAsg (tC (.str "abcdefghijklmnopqrstuvwxyz")) (gName 2))
  (tSeq (tAsg (tTup (tCons (tCall (sp_law_draw M) [] E0 (tCons (tVar 0) (tCons (tC (.int 14)) tNil))) (tCons (tOp (rIxL M.K) (tLst (tCons (tC (.int 1)) (tCons (tC (.int 2)) (tCons (tC (.int 3)) (tCons (tC (.int 12)) (tCons (tC (.int 0)) tNil)))))) (tCall (sp_law_draw M) [] E0 (tCons (tVar 0) (tCons (tC (.int 5)) tNil)))) tNil))) (gTup M.K 2 (gCons (gName 3) (gCons (gName 4) gNil))))
  (tSeq (tIfS (tTest (tOp rEq (tVar 4) (tC (.int 0)))) (tRet (tSl rSlS (tVar 2) (tPart (tVar 3)) (tPart (tOp rAddI (tVar 3) (tVar 1))))) tNext)
  (tRet (tM1 (rJoin M.K) (tC (.str "")) (tLc (iRng1 (tCons (tVar 1) tNil)) (gName 5) tYes (tOp rIxS (tVar 2) (tOp rAddI (tVar 3) (tCall (sp_law_draw M) [] E0 (tCons (tVar 0) (tCons (tVar 4) tNil))))) [5]))))))
theorem rd_law_filled {M : Md} {vs : List V} {H : Hp} {Q : VK} {E : XK} (h : sp_law_filled M vs H Q E) : t_law_filled M { nx := fun _ H' => Q .non H', rt := Q } (start N_law_filled vs) H := by
  obtain ⟨a, n, rfl, hs, n2, n12, q⟩ := h
  obtain ⟨azl, azl2⟩ := az_len
  refine q_set (P := PV (.str "abcdefghijklmnopqrstuvwxyz")) (ev_c rfl) fun v H1 s1 hv => ?_
  obtain rfl : v = .str "abcdefghijklmnopqrstuvwxyz" := hv
  have hs1 := hs.s s1
  have e1 : EvT a (tCall (sp_law_draw M) [] E0 (tCons (tVar 0) (tCons (tC (.int 14)) tNil))) ((start N_law_filled [.ref a, .int n]).set 2 (some (.str "abcdefghijklmnopqrstuvwxyz"))) H1 (IntP fun i => 0 ≤ i ∧ i < 14) := et_draw hs1 rfl (ev_eqI (ev_c rfl)) (by decide) (by decide)
  refine q_seq (e1 _ fun v H2 d2 ⟨b, hv, hb⟩ => ?_)
  subst hv
  have e2 : EvT a (tOp (rIxL M.K) (tLst (tCons (tC (.int 1)) (tCons (tC (.int 2)) (tCons (tC (.int 3)) (tCons (tC (.int 12)) (tCons (tC (.int 0)) tNil)))))) (tCall (sp_law_draw M) [] E0 (tCons (tVar 0) (tCons (tC (.int 5)) tNil)))) ((start N_law_filled [.ref a, .int n]).set 2 (some (.str "abcdefghijklmnopqrstuvwxyz"))) H2 (IntP (· ∈ [1, 2, 3, 12, 0])) :=
    et_pick (ns := [1, 2, 3, 12, 0]) d2.sr (fun Q h => h) (fun H3 S3 => et_draw S3 rfl (ev_eqI (ev_c rfl)) (by decide) (by decide)) (by decide)
  refine a_cons (e2 _ fun v H3 d3 ⟨sp, hv, hsp⟩ => ?_)
  subst hv
  refine ⟨Nat.le_of_lt (Nat.lt_of_lt_of_le (show 2 < 1000000 by decide) (by decide)), fun p hp => ?_⟩
  have sn : Same H3 (upd H3 p (.tup [.int b, .int sp])) := same_new hp
  have d4 : Dr a H (upd H3 p (.tup [.int b, .int sp])) := ((Dr.of hs s1).trans (d2.trans d3)).then sn
  refine ⟨p, _, rfl, .inl (.inl upd_same), rfl, _, _, rfl, _, _, rfl, rfl, nx_go ?_⟩
  generalize upd H3 p (.tup [.int b, .int sp]) = H4 at d4 ⊢
  show tSeq _ _ _ [some (.ref a), some (.int n), some (.str "abcdefghijklmnopqrstuvwxyz"), some (.int b), some (.int sp), none] H4
  have hsp' : 0 ≤ sp ∧ sp ≤ 12 := by
    simp only [List.mem_cons, List.not_mem_nil, or_false] at hsp
    omega
  obtain ⟨k, rfl⟩ := Int.eq_ofNat_of_zero_le hb.1
  refine q_if (b := decide (V.int sp = V.int 0)) (eb_test (ev_eq (ev_slot rfl) (fun _ _ => ev_c rfl) rfl)) (fun e H5 s5 => ?_) (fun e H5 s5 => ?_)
  · have e5 := ev_slS (σ := [some (.ref a), some (.int n), some (.str "abcdefghijklmnopqrstuvwxyz"), some (.int (k : Nat)), some (.int sp), none]) (H := H5) (ta := tVar 2) (z := "abcdefghijklmnopqrstuvwxyz") (lo := some ((k : Nat) : Int)) (hi := some ((k + n : Nat) : Int)) (tl := tPart (tVar 3)) (th := tPart (tOp rAddI (tVar 3) (tVar 1))) (ev_slot rfl) (fun _ _ => ep_some (ev_slot rfl)) (fun _ _ => ep_some (Ev.toI (ev_i0 (g := fun i j => .int (i + j)) (ev_slot rfl) fun _ _ => ev_slot rfl) rfl)) (by rw [azl]; decide)
    refine e5 _ fun v H6 s6 hv => q v H6 (d4.then (s5.trans s6)) ⟨_, hv, ?_⟩
    have ec : (cutS ("abcdefghijklmnopqrstuvwxyz" : Str) (some ((k : Nat) : Int)) (some ((k + n : Nat) : Int))).cps.toList = (("abcdefghijklmnopqrstuvwxyz" : Str).cps.toList.drop k).take n := by
      unfold cutS
      rw [HT.sIx_nat, HT.sIx_nat, azl, Nat.min_eq_left (by omega), Nat.min_eq_left (by omega), show k + n - k = n from by omega]
    refine ⟨?_, fun c hc => ?_⟩
    · rw [TL.len_tl]
      show (cutS _ _ _).cps.toList.length = n
      rw [ec, List.length_take, List.length_drop, azl2]
      omega
    · rw [ec] at hc
      have hm := List.mem_of_mem_drop (List.mem_of_mem_take hc)
      rw [az_all] at hm
      obtain ⟨j, hj, rfl⟩ := List.mem_map.mp hm
      have := List.mem_range.mp hj
      exact ⟨by omega, by omega⟩
  · have hsp0 : sp ≠ 0 := fun z => by
      rw [z] at e
      simp at e
    refine ⟨⟨"", rfl⟩, ?_⟩
    have d5 := d4.then s5
    have e8 := et_lc (M := M) (σ := [some (.ref a), some (.int n), some (.str "abcdefghijklmnopqrstuvwxyz"), some (.int (k : Nat)), some (.int sp), none]) (H := H5) (a := a) (n := n) (tn := tVar 1) (j := 5) (vs := [5]) (tt := tYes) (te := tOp rIxS (tVar 2) (tOp rAddI (tVar 3) (tCall (sp_law_draw M) [] E0 (tCons (tVar 0) (tCons (tVar 4) tNil))))) (Rel := RelAz)
      d5.sr (range_any d5.sr (ev_slot rfl)) (by omega) .zero (fun x => wipe_set1 x) (fun i ds H1 hi hR d => fun Q' q' => q' true _ d.sr.dr fun z => nomatch z) fun i ds H1 hi hR d => fun Q' q' => ?_
    · refine e8 _ fun v H6 d6 ⟨ds, ⟨cs, hl, hc, e⟩, _, r, er, hr, xs, g1, g2⟩ => ?_
      subst er e
      rw [DtA.of_strs g2] at g1
      refine ⟨"", r, _, rfl, rfl, .inl (SqL.of g1), ?_, ?_⟩
      · rw [sum_ones, List.length_map, hl, show ("" : Str).length = 0 from rfl]
        omega
      · rw [join_ones]
        refine q _ _ (d5.trans d6) ⟨_, rfl, ?_, ?_⟩
        · show cs.toArray.size = n
          rw [List.size_toArray]
          exact hl
        · exact fun c h => hc c (by simpa using h)
    · refine ⟨_, rfl, ?_⟩
      have e9 : EvT a (tOp rAddI (tVar 3) (tCall (sp_law_draw M) [] E0 (tCons (tVar 0) (tCons (tVar 4) tNil)))) ((wipe [some (.ref a), some (.int n), some (.str "abcdefghijklmnopqrstuvwxyz"), some (.int (k : Nat)), some (.int sp), none] [5]).set 5 (some (.int (i : Nat)))) H1 (IntP fun j => 0 ≤ j ∧ j < 26) :=
        et_i0 (A := fun i => i = (k : Int)) (B := fun i => 0 ≤ i ∧ i < sp) (et_int d.sr (ev_slot rfl) rfl) (fun H4 d4 => et_draw d4.sr rfl (ev_eqI (ev_slot rfl)) (by omega) (by omega)) fun i j h1 h2 => by omega
      refine e9 _ fun v H2 d2 ⟨j, hv, hj⟩ => ?_
      subst hv
      obtain ⟨m, rfl⟩ := Int.eq_ofNat_of_zero_le hj.1
      refine ⟨_, _, 97 + m, rfl, rfl, Nat.le_trans (m := 1000000) (by rw [azl]; decide) (by decide), at_nat hj.1 (az_at (by omega)), q' _ _ d2 ⟨_, .str _, hR.yes (by omega)⟩⟩

/-! ### a row of drawn instructions -/
theorem et_lcD {M : Md} {σ : L2.St} {H : Hp} {a : Addr} {tn te : TE} {j N : Nat} {vs : List Nat} {Rel : Nat → List PyData → Prop} (hs : Src H a) (hn : EvT a tn σ H (IntP fun i => 0 ≤ i ∧ i ≤ N)) (hz : N ≤ 100000) (h0 : Rel 0 [])
    (hw : ∀ x, wipe ((wipe σ vs).set j (some x)) vs = wipe σ vs)
    (he : ∀ i ds H1, i < N → Rel i ds → Dr a H H1 → EvT a te ((wipe σ vs).set j (some (.int (i : Nat)))) H1 fun v H' => ∃ d, Dt M H' v d ∧ Rel (i + 1) (ds ++ [d])) :
    EvT a (tLc (iRng1 (tCons tn tNil)) (gName j) tYes te vs) σ H (fun v H' => ∃ n ds, n ≤ N ∧ Rel n ds ∧ PLN M a ds v H') := fun Q q =>
  hn _ fun x H1 d1 ⟨i, ex, h1, h2⟩ => by
    subst ex
    obtain ⟨n, rfl⟩ := Int.eq_ofNat_of_zero_le h1
    have e := et_lc (M := M) (σ := σ) (H := H1) (a := a) (tn := tC (.int (n : Nat))) (n := n) (tt := tYes) (te := te) (j := j) (vs := vs) (Rel := Rel) d1.sr (et_int d1.sr (ev_c rfl) rfl) (by omega) h0 hw (fun i ds H2 hi hR d => fun Q' q' => q' true _ d.sr.dr fun z => nomatch z) fun i ds H2 hi hR d => he i ds H2 (by omega) hR (d1.trans d)
    exact e _ fun v H2 d2 ⟨ds, hR, _, hp⟩ => q v H2 (d1.trans d2) ⟨n, ds, by omega, hR, hp⟩
def RelIns (is : List Ins) (i : Nat) (ds : List PyData) : Prop := ∃ js : List Ins, js.length = i ∧ (∀ j ∈ js, j ∈ is) ∧ ds = js.map insD
theorem insD_flt (i : Ins) : Flt 1 (insD i) := .tup fun d hd => by
  rcases List.mem_cons.mp hd with rfl | hd
  · exact .int _
  · rw [List.mem_singleton.mp hd]
    refine ⟨?_, by rw [PyData.depth]; exact Nat.zero_le _⟩
    rw [PyData.canLay0]
    cases i.2 <;> decide +kernel
def sp_law_some (M : Md) : Sp := fun vs H Q _ => ∃ (a p : Addr) (is : List Ins), vs = [.ref a, .ref p, .int 30] ∧ Src H a ∧ p ≠ a ∧ LstAt M H p (is.map insD) ∧ is.length ≤ 24 ∧
  ∀ v H', Dr a H H' → (∃ js : List Ins, (∀ j ∈ js, j ∈ is) ∧ js.length ≤ 30 ∧ PLN M a (js.map insD) v H') → Q v H'
abbrev N_law_some : List Str := ["_law_source_here", "_law_orders_here", "_law_most", "_law_turn"]
def t_law_some (M : Md) : TS := (tSeq (tIfS (tTest (tOp (rEqD M.K) (tVar 1) (tLst tNil))) (tRet (tLst tNil)) tNext)
  (tRet (tLc (iRng1 (tCons (tCall (sp_law_draw M) [] E0 (tCons (tVar 0) (tCons (tOp rAddI (tVar 2) (tC (.int 1))) tNil))) tNil)) (gName 3) tYes (tOp (rIxL M.K) (tVar 1) (tCall (sp_law_draw M) [] E0 (tCons (tVar 0) (tCons (tCB (rLenQ M.K) (tCons (tVar 1) tNil)) tNil)))) [3])))
theorem rd_law_some {M : Md} {vs : List V} {H : Hp} {Q : VK} {E : XK} (h : sp_law_some M vs H Q E) : t_law_some M { nx := fun _ H' => Q .non H', rt := Q } (start N_law_some vs) H := by
  obtain ⟨a, p, is, rfl, hs, hpa, hl, hlen, q⟩ := h
  have hq : ∀ {σ : L2.St} {H1 : Hp}, σ[1]? = some (some (.ref p)) → Same H H1 → Ev (tVar 1) σ H1 (PL M (is.map insD)) := fun e s => ev_lstAt e (hl.s s)
  have fl : Flt 2 (.list (is.map insD)) := .lst fun d hd => by
    obtain ⟨i, _, rfl⟩ := List.mem_map.mp hd
    exact insD_flt i
  refine q_if (b := decide (is = [])) (eb_test (Ev.toB (ev_eqD (hq rfl (Same.refl _)).qL (fun H2 s2 => (ev_lst (M := M) ea0 (by decide)).qL) fl.shaped (Flt.lst (n := 0) (ds := []) fun d h => absurd h List.not_mem_nil).shaped) ?_)) (fun e H1 s1 => ?_) (fun e H1 s1 => ?_)
  · cases is with
    | nil => simp [PyData.eqv, PyData.eqvAll]
    | cons i is => simp [PyData.eqv, PyData.eqvAll]
  · refine ⟨Nat.zero_le _, fun r hr => ?_⟩
    exact q _ _ ((Dr.of hs s1).then (same_new hr)) ⟨[], (fun _ h => nomatch h), Nat.zero_le _, r, rfl, (hs.s s1).ne hr, [], upd_same, .nil⟩
  · have hne : is ≠ [] := of_decide_eq_false e
    have hpos : 0 < is.length := List.length_pos_iff.mpr hne
    have hs1 := hs.s s1
    have e8 := et_lcD (M := M) (σ := start N_law_some [.ref a, .ref p, .int 30]) (H := H1) (a := a) (N := 30) (tn := tCall (sp_law_draw M) [] E0 (tCons (tVar 0) (tCons (tOp rAddI (tVar 2) (tC (.int 1))) tNil))) (j := 3) (vs := [3]) (te := tOp (rIxL M.K) (tVar 1) (tCall (sp_law_draw M) [] E0 (tCons (tVar 0) (tCons (tCB (rLenQ M.K) (tCons (tVar 1) tNil)) tNil)))) (Rel := RelIns is)
      hs1 ((et_draw (m := 31) hs1 rfl (ev_eqI (Ev.toI (ev_i0 (g := fun i j => .int (i + j)) (ev_slot rfl) fun _ _ => ev_c rfl) rfl)) (by decide) (by decide)).imp fun v H' _ ⟨i, e, h⟩ => ⟨i, e, by omega⟩) (by decide) ⟨[], rfl, (fun _ h => nomatch h), rfl⟩ (fun x => wipe_set1 x) fun i ds H2 hi hR d => fun Q' q' => ?_
    · refine e8 _ fun v H3 d3 ⟨n, ds, hn, ⟨js, h1, h2, e⟩, hp⟩ => q v H3 ((Dr.of hs s1).trans d3) ⟨js, h2, by omega, e ▸ hp⟩
    · have l2 : LstAt M H2 p (is.map insD) := (hl.s s1).dr hs1 hpa d
      refine ⟨_, rfl, ?_⟩
      have e9 : EvT a (tCall (sp_law_draw M) [] E0 (tCons (tVar 0) (tCons (tCB (rLenQ M.K) (tCons (tVar 1) tNil)) tNil))) ((wipe (start N_law_some [.ref a, .ref p, .int 30]) [3]).set 3 (some (.int (i : Nat)))) H2 (IntP fun j => 0 ≤ j ∧ j < (is.length : Nat)) :=
        et_draw d.sr rfl (ev_eqI (Ev.toI (ev_lenL (M := M) (ev_lstAt rfl l2)) (by rw [List.length_map]))) (by omega) (by omega)
      refine e9 _ fun v H4 d4 ⟨j, hv, hj⟩ => ?_
      subst hv
      obtain ⟨m, rfl⟩ := Int.eq_ofNat_of_zero_le hj.1
      have hm : m < is.length := by omega
      have l4 := l2.dr d.sr hpa d4
      obtain ⟨xs, g1, g2⟩ := l4
      obtain ⟨u, hu, hdu⟩ := g2.get (n := m) (d := insD is[m]) (by rw [List.getElem?_map, List.getElem?_eq_getElem hm]; rfl)
      obtain ⟨js, j1, j2, rfl⟩ := hR
      refine ⟨p, xs, _, u, rfl, rfl, SqL.of g1, at_nat hj.1 hu, q' _ _ d4 ⟨insD is[m], hdu, js ++ [is[m]], by rw [List.length_append, j1]; rfl, fun x hx => ?_, by rw [List.map_append]; rfl⟩⟩
      rcases List.mem_append.mp hx with hx | hx
      · exact j2 x hx
      · rw [List.mem_singleton.mp hx]
        exact List.getElem_mem _
end Crx

set_option maxHeartbeats 4000000
/-! L65e: what a recorder shows, what it must show. -/
namespace Crx
open PySem PySem.Spec PyProof.Rows L2 RZ

/-! ### data that can be shown -/
/-- nested at most n deep, of a weight of at most w -/
structure Sm (n w : Nat) (d : PyData) : Prop where
  lay : d.canLay0 = true
  shw : d.showable = true
  sht : d.intsShort 13 = true
  dep : d.depth ≤ n
  wgt : d.weight ≤ w
theorem Sm.fits {n w : Nat} {d : PyData} (h : Sm n w d) (hw : w ≤ 1000000) : d.shown.length ≤ 16777216 := by
  have h2 := PyData.shown_le 13 (by decide) d (PyData.leavesShort_of_canLay0 13 d h.lay h.sht)
  have h3 := h.wgt
  omega
theorem Sm.mono {m n v w : Nat} {d : PyData} (h : Sm m v d) (hn : m ≤ n) (hw : v ≤ w) : Sm n w d := ⟨h.lay, h.shw, h.sht, Nat.le_trans h.dep hn, Nat.le_trans h.wgt hw⟩
theorem Sm.int {n : Nat} {i : Int} (h0 : 0 ≤ i) (h1 : i < 1000000) : Sm n 30 (.int i) := by
  obtain ⟨k, rfl⟩ := Int.eq_ofNat_of_zero_le h0
  have hl := small_log h0 h1
  refine ⟨by rw [PyData.canLay0], by rw [PyData.showable]; exact decide_eq_true hl, ?_, by rw [PyData.depth]; exact Nat.zero_le _, ?_⟩
  · rw [PyData.intsShort]
    refine decide_eq_true ?_
    have : (numS (k : Int)).length ≤ 6 := numS_len h0 (by decide) (by omega)
    rw [PyData.shown]
    exact Nat.le_trans this (by decide)
  · rw [PyData.weight]
    split
    · omega
    · rename_i hne
      have hk : k ≠ 0 := fun z => by rw [z] at hne; exact hne rfl
      have := (Nat.log2_lt hk).mpr (show k < 2 ^ 20 by omega)
      rw [Int.natAbs_natCast]
      omega
theorem Sm.bl {n : Nat} (b : Bool) : Sm n 30 (.bool b) := ⟨by rw [PyData.canLay0], by rw [PyData.showable], by rw [PyData.intsShort], by rw [PyData.depth]; exact Nat.zero_le _, by rw [PyData.weight]; exact Nat.zero_le _⟩
theorem strOk_of {z : Str} (h : ∀ c ∈ z.cps.toList, c < 1114112) : PyData.strOk z = true := by
  unfold PyData.strOk
  rw [Array.all_eq_true_iff_forall_mem]
  intro c hc
  exact decide_eq_true (h c (Array.mem_toList_iff.mpr hc))
theorem Sm.str {n w : Nat} {z : Str} (h : ∀ c ∈ z.cps.toList, c < 1114112) (hw : z.length ≤ w) : Sm n w (.str z) := ⟨by rw [PyData.canLay0]; exact strOk_of h, by rw [PyData.showable], by rw [PyData.intsShort], by rw [PyData.depth]; exact Nat.zero_le _, by rw [PyData.weight]; exact hw⟩
theorem Sm.all {n w : Nat} : ∀ {ds : List PyData}, (∀ d ∈ ds, Sm n w d) → PyData.canLayAll0 ds = true ∧ PyData.showableAll ds = true ∧ PyData.intsShortAll 13 ds = true ∧ PyData.depthAll ds ≤ n ∧ PyData.weightAll ds ≤ ds.length * (w + 1)
  | [], _ => ⟨by rw [PyData.canLayAll0], by rw [PyData.showableAll], by rw [PyData.intsShortAll], by rw [PyData.depthAll]; exact Nat.zero_le _, by rw [PyData.weightAll]; exact Nat.zero_le _⟩
  | d :: ds, h => by
    have h1 := h d (List.mem_cons_self ..)
    obtain ⟨a, b, c, e, f⟩ := Sm.all fun e he => h e (List.mem_cons_of_mem _ he)
    refine ⟨by rw [PyData.canLayAll0, h1.lay, a]; rfl, by rw [PyData.showableAll, h1.shw, b]; rfl, by rw [PyData.intsShortAll, h1.sht, c]; rfl, ?_, ?_⟩
    · rw [PyData.depthAll]
      have := h1.dep
      omega
    · rw [PyData.weightAll, List.length_cons, Nat.add_mul]
      have := h1.wgt
      omega
theorem Sm.tup {n w : Nat} {ds : List PyData} (h : ∀ d ∈ ds, Sm n w d) : Sm (n + 1) (ds.length * (w + 1)) (.tuple ds) := by
  obtain ⟨a, b, c, e, f⟩ := Sm.all h
  exact ⟨by rw [PyData.canLay0]; exact a, by rw [PyData.showable]; exact b, by rw [PyData.intsShort]; exact c, by rw [PyData.depth]; omega, by rw [PyData.weight]; exact f⟩
theorem Sm.lst {n w : Nat} {ds : List PyData} (h : ∀ d ∈ ds, Sm n w d) : Sm (n + 1) (ds.length * (w + 1)) (.list ds) := by
  obtain ⟨a, b, c, e, f⟩ := Sm.all h
  exact ⟨by rw [PyData.canLay0]; exact a, by rw [PyData.showable]; exact b, by rw [PyData.intsShort]; exact c, by rw [PyData.depth]; omega, by rw [PyData.weight]; exact f⟩
theorem ev_reprL {M : Md} {σ : L2.St} {H : Hp} {te : TE} {ds : List PyData} {n w : Nat} (h : Ev te σ H (PL M ds)) (hs : Sm n w (.list ds)) (hn : n ≤ 60) (hw : w ≤ 1000000) : Ev (tCB (rReprD M.K) (tCons te tNil)) σ H (PV (.str (PyData.list ds).shown)) := fun Q q =>
  h _ fun x H1 s1 ⟨p, xs, e, h1, h2⟩ => by
    subst e
    exact ⟨p, .list ds, rfl, .lst (SqL.of h1) h2.dp, hs.lay, hs.shw, Nat.le_trans hs.dep hn, hs.fits hw, q _ _ s1 rfl⟩

/-! ### texts -/
theorem num_cps {i : Int} (h : 0 ≤ i) : ∀ c ∈ (numS i).cps.toList, c < 1114112 := fun c hc => by
  obtain ⟨n, rfl⟩ := Int.eq_ofNat_of_zero_le h
  rw [cps_numS] at hc
  have := numL_dig hc
  omega
theorem app_cps {x y : Str} (hx : ∀ c ∈ x.cps.toList, c < 1114112) (hy : ∀ c ∈ y.cps.toList, c < 1114112) : ∀ c ∈ (x ++ y).cps.toList, c < 1114112 := fun c hc => by
  have e : (x ++ y).cps.toList = x.cps.toList ++ y.cps.toList := TL.tl_append x y
  rw [e] at hc
  rcases List.mem_append.mp hc with h | h
  · exact hx c h
  · exact hy c h
theorem lit_cps : (∀ c ∈ ("Recorder(" : Str).cps.toList, c < 1114112) ∧ (∀ c ∈ (", " : Str).cps.toList, c < 1114112) ∧ (∀ c ∈ (")" : Str).cps.toList, c < 1114112) ∧ (∀ c ∈ ("ring" : Str).cps.toList, c < 1114112) ∧ (∀ c ∈ ("locks" : Str).cps.toList, c < 1114112) ∧
    (∀ c ∈ ("walls" : Str).cps.toList, c < 1114112) ∧ (∀ c ∈ ("prices" : Str).cps.toList, c < 1114112) ∧ (∀ c ∈ (" " : Str).cps.toList, c < 1114112) := by decide +kernel
theorem rec_cps (n k : Nat) : ∀ c ∈ (recText n k).cps.toList, c < 1114112 := by
  obtain ⟨a, b, c, _⟩ := lit_cps
  exact app_cps (app_cps (app_cps (app_cps a (num_cps (Int.natCast_nonneg n))) b) (num_cps (Int.natCast_nonneg k))) c
theorem rec_len {n k : Nat} (hn : n ≤ 12) (hk : k ≤ 1000) : (recText n k).length ≤ 30 := by
  obtain ⟨e1, e2, e3⟩ := lits
  have l1 : (numS n).length ≤ 6 := numS_len (by omega) (by decide) (by omega)
  have l2 : (numS k).length ≤ 6 := numS_len (by omega) (by decide) (by omega)
  unfold recText
  rw [len_app, len_app, len_app, len_app, e1, e2, e3]
  omega
theorem joinL_mem {S : List Nat} {P : Nat → Prop} (hS : ∀ c ∈ S, P c) : ∀ {ps : List (List Nat)}, (∀ p ∈ ps, ∀ c ∈ p, P c) → ∀ c ∈ TL.joinL S ps, P c
  | [], _, c, hc => nomatch hc
  | [p], h, c, hc => h p (List.mem_cons_self ..) c hc
  | p :: q :: r, h, c, hc => by
    have hc' : c ∈ p ++ (S ++ TL.joinL S (q :: r)) := hc
    rcases List.mem_append.mp hc' with z | z
    · exact h p (List.mem_cons_self ..) c z
    · rcases List.mem_append.mp z with z | z
      · exact hS c z
      · exact joinL_mem hS (fun p hp => h p (List.mem_cons_of_mem _ hp)) c z
theorem ring_cps {R : RingD} (h : R.Ok) : ∀ c ∈ (ringText R).cps.toList, c < 1114112 := by
  obtain ⟨a1, a2, a3, a4, a5, a6, a7, a8⟩ := lit_cps
  have e : (ringText R).cps.toList = TL.joinL (" " : Str).cps.toList ((ringWords R).map TL.tl) := by
    unfold ringText
    rw [TL.join_eq]
    exact TL.tl_join _ _
  rw [e]
  refine joinL_mem a8 fun p hp => ?_
  obtain ⟨x, hx, rfl⟩ := List.mem_map.mp hp
  unfold ringWords at hx
  simp only [List.mem_append, List.mem_cons, List.not_mem_nil, or_false] at hx
  have hm : ∀ {ns : List Int}, (∀ i ∈ ns, 0 ≤ i) → x ∈ ns.map numS → ∀ c ∈ TL.tl x, c < 1114112 := fun hn z => by
    obtain ⟨i, hi, rfl⟩ := List.mem_map.mp z
    exact num_cps (hn i hi)
  rcases hx with (((((rfl | rfl | rfl) | hp) | rfl) | hp) | rfl) | hp
  · exact a4
  · exact num_cps (by omega)
  · exact a5
  · exact hm (fun i hi => (h.lock i hi).1) hp
  · exact a6
  · exact hm (fun i hi => (h.wall i hi).1) hp
  · exact a7
  · exact hm h.price hp

/-! ### what it shows -/
def rowD (n : Nat) (z : Str) (is : List Ins) (cost : Int) (run : Bool) (t : Str) : List PyData :=
  [.str z, .tuple (is.map insD), dI (effL n is), .int cost, .int (is.length : Nat)] ++ [.str (recText n is.length), .str (recText n is.length), .bool run, .bool (is.length != 0), .str t]
/-- the price of a row -/
def costOf (R : RingD) (is : List Ins) : Int := (is.map fun i => R.prices.getD i.1.toNat 0).sum
theorem ins_sm (i : Ins) (h0 : 0 ≤ i.1) (h1 : i.1 < 1000) : Sm 1 62 (insD i) :=
  Sm.tup (n := 0) (w := 30) (ds := [.int i.1, .str (sideS i.2)]) fun d hd => by
    rcases List.mem_cons.mp hd with rfl | hd
    · exact Sm.int h0 (by omega)
    · rw [List.mem_singleton.mp hd]
      refine Sm.str ?_ ?_
      · cases i.2 <;> decide +kernel
      · cases i.2 <;> decide +kernel
theorem cost_bound {R : RingD} (ok : R.Ok) : ∀ {is : List Ins}, (∀ i ∈ is, 0 ≤ i.1 ∧ i.1 < (R.n : Int)) → 0 ≤ costOf R is ∧ costOf R is ≤ 999 * (is.length : Int)
  | [], _ => ⟨Int.le_refl 0, Int.le_refl 0⟩
  | i :: is, h => by
    have ih := cost_bound ok (is := is) fun j hj => h j (List.mem_cons_of_mem _ hj)
    have hi := h i (List.mem_cons_self ..)
    have hp : 1 ≤ R.prices.getD i.1.toNat 0 ∧ R.prices.getD i.1.toNat 0 ≤ 999 := by
      have pl := ok.pl
      rw [List.getD_eq_getElem?_getD, List.getElem?_eq_getElem (by omega), Option.getD_some]
      exact ok.pr _ (List.getElem_mem _)
    have e : costOf R (i :: is) = R.prices.getD i.1.toNat 0 + costOf R is := by
      unfold costOf
      rw [List.map_cons, List.sum_cons]
    rw [e, List.length_cons]
    omega
theorem row_sm {R : RingD} {z : Str} {is : List Ins} {run : Bool} (ok : R.Ok) (hz : Letters R.n z) (hi : ∀ i ∈ is, 0 ≤ i.1 ∧ i.1 < (R.n : Int)) (hl : is.length ≤ 100) : Sm 3 1000000 (.list (rowD R.n z is (costOf R is) run (ringText R))) := by
  have n12 := ok.n12
  have cb := cost_bound ok hi
  have ef := effL_len ok.n2 hi (upTo_len R.n) upTo_mem
  have t1 : Sm 2 10000 (.str (recText R.n is.length)) := .str (rec_cps _ _) (Nat.le_trans (rec_len n12 (by omega)) (by omega))
  refine (Sm.lst (n := 2) (w := 10000) fun d hd => ?_).mono (Nat.le_refl _) ?_
  · unfold rowD at hd
    simp only [List.mem_append, List.mem_cons, List.not_mem_nil, or_false] at hd
    rcases hd with (rfl | rfl | rfl | rfl | rfl) | (rfl | rfl | rfl | rfl | rfl)
    · exact .str (fun c hc => by have := hz.az c hc; omega) (by rw [hz.len]; omega)
    · refine (Sm.tup (n := 1) (w := 62) fun d hd => ?_).mono (Nat.le_refl _) (by rw [List.length_map]; omega)
      obtain ⟨i, hi', rfl⟩ := List.mem_map.mp hd
      have := hi i hi'
      exact ins_sm i this.1 (by omega)
    · refine (Sm.tup (n := 0) (w := 30) fun d hd => ?_).mono (by omega) (by rw [List.length_map]; unfold effL; rw [ef.1]; omega)
      obtain ⟨i, hi', rfl⟩ := List.mem_map.mp hd
      have := ef.2 i hi'
      exact .int this.1 (by omega)
    · exact (Sm.int cb.1 (by omega)).mono (Nat.le_refl _) (by omega)
    · exact (Sm.int (Int.natCast_nonneg _) (by omega)).mono (Nat.le_refl _) (by omega)
    · exact t1
    · exact t1
    · exact (Sm.bl _).mono (Nat.le_refl _) (by omega)
    · exact (Sm.bl _).mono (Nat.le_refl _) (by omega)
    · exact .str (ring_cps ok) (by have := text_len ok; omega)
  · unfold rowD
    simp only [List.length_append, List.length_cons, List.length_nil]
    omega
end Crx

set_option maxHeartbeats 4000000
/-! L65f: state, due. -/
namespace Crx
open PySem PySem.Spec PyProof.Rows L2 RZ

section
variable {M : Md} {σ : L2.St} {H : Hp} {ta tb tc te : TE} {a l : Addr} {D : RecD} {P P1 P2 P3 : V → Hp → Prop} {i j k : Nat}
/-- a recorder's method without arguments -/
theorem ev_rmeth {m : Str} {sp : Sp} (h : Ev te σ H (PC M a l D)) (hm : (m == "ring") = false ∧ (m == "running") = false ∧ (m == "runs") = false ∧ (m == "letters") = false ∧ (m == "done") = false)
    (hsp : ∀ H1 (Q : VK), IsRec M H1 a l D → Pr P H1 Q → sp [.ref a] H1 Q E0) : Ev (tMeth M.recd m sp [] E0 te tNil) σ H P := fun Q q =>
  h _ fun x H1 s1 ⟨e, hr⟩ => by
    subst e
    obtain ⟨dx, rv, g1, g2⟩ := id hr
    exact ⟨a, dx, _, rfl, g1, recFs_no _ _ _ _ _ hm.1 hm.2.1 hm.2.2.1 hm.2.2.2.1 hm.2.2.2.2, hsp H1 Q hr fun v H' s p => q v H' (s1.trans s) p⟩
theorem ev_rlen (h : Ev te σ H (PC M a l D)) (hz : D.done.length ≤ 1000) : Ev (tCB (rOwnLen M.recd (sp_Recorder_len M)) (tCons te tNil)) σ H (PI (D.done.length : Nat)) := fun Q q =>
  h _ fun x H1 s1 ⟨e, hr⟩ => by
    subst e
    obtain ⟨dx, rv, g1, g2⟩ := id hr
    exact ⟨a, dx, _, rfl, g1, a, l, D, rfl, hr, fun v H' s p => ⟨D.done.length, p, by omega, q v H' (s1.trans s) p⟩⟩
theorem ev_rtxt (h : Ev te σ H (PC M a l D)) (hn : D.R.n ≤ 12) (hz : D.done.length ≤ 1000) : Ev (tCB (rOwnTxt M.recd (sp_Recorder_str M)) (tCons te tNil)) σ H (PV (.str (recText D.R.n D.done.length))) := fun Q q =>
  h _ fun x H1 s1 ⟨e, hr⟩ => by
    subst e
    obtain ⟨dx, rv, g1, g2⟩ := id hr
    exact ⟨a, dx, _, rfl, g1, a, l, D, rfl, hr, hn, hz, fun v H' s p => ⟨_, p, q v H' (s1.trans s) p⟩⟩
theorem ev_rbool (h : Ev te σ H (PC M a l D)) (hz : D.done.length ≤ 1000) : Ev (tCB (rOwnBool M.recd (sp_Recorder_len M)) (tCons te tNil)) σ H (PB (D.done.length != 0)) := fun Q q =>
  h _ fun x H1 s1 ⟨e, hr⟩ => by
    subst e
    obtain ⟨dx, rv, g1, g2⟩ := id hr
    exact ⟨a, dx, _, rfl, g1, a, l, D, rfl, hr, fun v H' s p => ⟨D.done.length, p, by omega, q _ H' (s1.trans s) rfl⟩⟩
theorem ev_ringStr {R : RingD} (h : Ev te σ H (PR M R)) (ok : R.Ok) : Ev (tCB (rOwnTxt M.ring (sp_Ring_str M)) (tCons te tNil)) σ H (PV (.str (ringText R))) := fun Q q =>
  h _ fun x H1 s1 hr => by
    obtain ⟨b, dx, w1, w2, w3, rfl, g1, g2⟩ := id hr
    exact ⟨b, dx, _, rfl, g1, _, R, rfl, hr, ok, fun v H' s p => ⟨_, p, q v H' (s1.trans s) p⟩⟩
/-- text + text -/
theorem ev_addS {x y : Str} (ha : Ev ta σ H (PV (.str x))) (hb : ∀ H1, Same H H1 → Ev tb σ H1 (PV (.str y))) (hz : x.length + y.length ≤ 1000000) : Ev (tOp rAddS ta tb) σ H (PV (.str (x ++ y))) :=
  ev_vv ha hb fun H2 _ Q q => ⟨x, y, rfl, rfl, Nat.le_trans hz (by decide), q _ H2 (Same.refl H2) rfl⟩
/-- "".join(a tuple of signs) -/
theorem ev_joinT {x : Str} {ys : List Str} (ha : Ev ta σ H (PV (.str x))) (hb : ∀ H1, Same H H1 → Ev tb σ H1 (PD M (.tuple (ys.map PyData.str)))) (hz : (ys.map (·.length)).sum + ys.length * x.length ≤ 16777216) : Ev (tM1 (rJoin M.K) ta tb) σ H (PV (.str (Txt.join x ys))) := fun Q q =>
  ha _ fun v H1 s1 p1 => ⟨⟨x, p1⟩, hb H1 s1 _ fun y H2 s2 p2 => by
    obtain ⟨b, xs, rfl, hs, hd⟩ := Dt.sq p2
    rw [DtA.of_strs hd] at hs
    exact ⟨x, b, ys, p1, rfl, .inr hs, hz, q _ _ (s1.trans s2) rfl⟩⟩
theorem q_par3P {D : Ends} (ha : Ev ta σ H P1) (hb : ∀ x H1, Same H H1 → P1 x H1 → Ev tb σ H1 P2) (hc : ∀ x y H1 H2, Same H H1 → Same H1 H2 → P1 x H1 → P2 y H2 → Ev tc σ H2 P3)
    (k' : ∀ x y z H1 H2 H3, Same H H1 → Same H1 H2 → Same H2 H3 → P1 x H1 → P2 y H2 → P3 z H3 → D.nx (((σ.set i (some x)).set j (some y)).set k (some z)) H3) : tPar3 i j k (tCons ta (tCons tb (tCons tc tNil))) D σ H :=
  ha _ fun x H1 s1 e1 => hb x H1 s1 e1 _ fun y H2 s2 e2 => hc x y H1 H2 s1 s2 e1 e2 _ fun z H3 s3 e3 => ⟨x, y, z, rfl, k' x y z H1 H2 H3 s1 s2 s3 e1 e2 e3⟩
end
theorem m_names : ∀ m ∈ [("held" : Str), "recorded", "sources", "spent", "write"], (m == "ring") = false ∧ (m == "running") = false ∧ (m == "runs") = false ∧ (m == "letters") = false ∧ (m == "done") = false := by decide +kernel
/-! ### what it shows -/
def sp_law_state (M : Md) : Sp := fun vs H Q _ => ∃ (a l : Addr) (D : RecD), vs = [.ref a] ∧ IsRec M H a l D ∧ D.Ok ∧ D.done.length ≤ 100 ∧ Pr (PV (.str (PyData.list (rowD D.R.n D.z D.ins D.cost D.run (ringText D.R))).shown)) H Q
abbrev N_law_state : List Str := ["_law_recorder", "_law_found"]
def t_law_state (M : Md) : TS := (tSeq (tAsg (tLst (tCons (tMeth M.recd "held" (sp_Recorder_held M) [] E0 (tVar 0) tNil) (tCons (tMeth M.recd "recorded" (sp_Recorder_recorded M) [] E0 (tVar 0) tNil) (tCons (tMeth M.recd "sources" (sp_Recorder_sources M) [] E0 (tVar 0) tNil) (tCons (tMeth M.recd "spent" (sp_Recorder_spent M) [] E0 (tVar 0) tNil) (tCons (tCB (rOwnLen M.recd (sp_Recorder_len M)) (tCons (tVar 0) tNil)) tNil)))))) (gName 1))
  (tSeq (tAsg (tOp rCat (tVar 1) (tLst (tCons (tCB (rOwnTxt M.recd (sp_Recorder_str M)) (tCons (tVar 0) tNil)) (tCons (tCB (rOwnTxt M.recd (sp_Recorder_repr M)) (tCons (tVar 0) tNil)) (tCons (tFld M.K (tVar 0) "running") (tCons (tCB (rOwnBool M.recd (sp_Recorder_len M)) (tCons (tVar 0) tNil)) (tCons (tCB (rOwnTxt M.ring (sp_Ring_str M)) (tCons (tFld M.K (tVar 0) "ring") tNil)) tNil))))))) (gName 1))
  (tRet (tCB (rReprD M.K) (tCons (tVar 1) tNil)))))
theorem rd_law_state {M : Md} (C : CCls M) (CR : RCls M) {vs : List V} {H : Hp} {Q : VK} {E : XK} (h : sp_law_state M vs H Q E) : t_law_state M { nx := fun _ H' => Q .non H', rt := Q } (start N_law_state vs) H := by
  obtain ⟨a, l, D, rfl, hr, ok, hd, q⟩ := h
  have n12 := ok.R.n12
  have lins : D.ins.length = D.done.length := by unfold RecD.ins; rw [List.length_map]
  have kr : ∀ {σ : L2.St} {H1 : Hp}, σ[0]? = some (some (.ref a)) → Same H H1 → Ev (tVar 0) σ H1 (PC M a l D) := fun e s => ev_rec e (hr.s s)
  refine q_set (P := PL M [.str D.z, .tuple (D.ins.map insD), dI (effL D.R.n D.ins), .int D.cost, .int (D.ins.length : Nat)]) ?_ fun v H1 s1 hv => ?_
  · refine ev_lst (ea1 (.dS (ev_rmeth (P := PV (.str D.z)) (kr rfl (Same.refl _)) (m_names _ (by decide +kernel)) fun H1 Q h q => ⟨a, l, D, rfl, h, q⟩)) fun H2 s2 => ea1 (ev_rmeth (P := PD M (.tuple (D.ins.map insD))) (kr rfl s2) (m_names _ (by decide +kernel)) fun H1 Q h q => ⟨a, l, D, rfl, h, by omega, q⟩) fun H3 s3 =>
      ea1 (ev_rmeth (P := PD M (dI (effL D.R.n D.ins))) (kr rfl (s2.trans s3)) (m_names _ (by decide +kernel)) fun H1 Q h q => ⟨a, l, D, rfl, h, ok, by omega, q⟩) fun H4 s4 => ea1 (.dI (ev_rmeth (P := PI D.cost) (kr rfl ((s2.trans s3).trans s4)) (m_names _ (by decide +kernel)) fun H1 Q h q => ⟨a, l, D, rfl, h, ok, by omega, q⟩)) fun H5 s5 =>
        ea1 (.dI (Ev.toI (ev_rlen (kr rfl (((s2.trans s3).trans s4).trans s5)) (by omega)) (by rw [lins]))) fun _ _ => ea0) (by show 5 ≤ 1000000; omega)
  obtain ⟨p1, xs1, rfl, g1, g2⟩ := hv
  refine q_set (P := PL M (rowD D.R.n D.z D.ins D.cost D.run (ringText D.R))) ?_ fun v H2 s2 hv => ?_
  · unfold rowD
    rw [lins]
    rw [lins] at g2
    refine ev_catL (ev_var rfl ⟨p1, xs1, rfl, g1, g2⟩) (fun H2 s2 => ev_lst (ea1 (.dS (ev_rtxt (kr rfl (s1.trans s2)) n12 (by omega))) fun H3 s3 => ea1 (.dS (ev_rtxt (kr rfl ((s1.trans s2).trans s3)) n12 (by omega))) fun H4 s4 => ea1 (.dB (ev_rrunning C (kr rfl (((s1.trans s2).trans s3).trans s4)))) fun H5 s5 =>
      ea1 (.dB (ev_rbool (kr rfl ((((s1.trans s2).trans s3).trans s4).trans s5)) (by omega))) fun H6 s6 => ea1 (.dS (ev_ringStr (ev_rring C (kr rfl (((((s1.trans s2).trans s3).trans s4).trans s5).trans s6))) ok.R)) fun _ _ => ea0) (by show 5 ≤ 1000000; omega)) (by show 5 + 5 ≤ 1000000; omega)
  · refine s_ret (P := PV (.str (PyData.list (rowD D.R.n D.z D.ins D.cost D.run (ringText D.R))).shown)) (ev_reprL (n := 3) (w := 1000000) (ev_var rfl hv) ?_ (by decide) (by decide)) (q.s (s1.trans s2))
    exact row_sm (R := D.R) ok.R ok.z (ins_bound ok) (by omega)

/-! ### what it must show -/
/-- letters behind a row -/
def zL (n : Nat) (cs : List Nat) (is : List Ins) : List Nat := is.foldl (fun (cs : List Nat) (i : Ins) => stepL (0 : Nat) n i cs) cs
def zS (n : Nat) (z : Str) (is : List Ins) : Str := ⟨(zL n z.cps.toList is).toArray⟩
theorem zL_snoc (n : Nat) (cs : List Nat) (is : List Ins) (i : Ins) : zL n cs (is ++ [i]) = stepL 0 n i (zL n cs is) := by unfold zL; rw [List.foldl_append]; rfl
theorem folS_snoc (n : Nat) (m : List Int) (is : List Ins) (i : Ins) : folS n m (is ++ [i]) = stepL 0 n i (folS n m is) := by unfold folS; rw [List.foldl_append]; rfl
theorem zL_ok {n : Nat} (hn : 2 ≤ n) {cs : List Nat} (hl : cs.length = n) (hc : ∀ c ∈ cs, 97 ≤ c ∧ c ≤ 122) : ∀ is : List Ins, (∀ i ∈ is, 0 ≤ i.1 ∧ i.1 < (n : Int)) → (zL n cs is).length = n ∧ ∀ c ∈ zL n cs is, 97 ≤ c ∧ c ≤ 122 := by
  intro is h
  induction is generalizing cs with
  | nil => exact ⟨hl, hc⟩
  | cons i is ih =>
    have hi := h i (List.mem_cons_self ..)
    show (zL n (stepL 0 n i cs) is).length = n ∧ ∀ c ∈ zL n (stepL 0 n i cs) is, 97 ≤ c ∧ c ≤ 122
    exact ih (stepL_len 0 hi.1 hi.2 hl) (stepL_mem hn hl hc) fun j hj => h j (List.mem_cons_of_mem _ hj)
abbrev sgD (cs : List Nat) : List PyData := cs.map fun c => PyData.str (⟨#[c]⟩ : Str)
theorem sgD_eq (cs : List Nat) : (cs.map fun c => (⟨#[c]⟩ : Str)).map PyData.str = sgD cs := by rw [List.map_map]; rfl
def sp_law_due (M : Md) : Sp := fun vs H Q _ => ∃ (p b : Addr) (rv : V) (R : RingD) (z : Str) (is : List Ins), vs = [.ref p, rv, .str z, .ref b] ∧ LstAt M H p (landD R) ∧ IsRing M H rv R ∧ R.Ok ∧ Letters R.n z ∧ LstAt M H b (is.map insD) ∧ (∀ i ∈ is, 0 ≤ i.1 ∧ i.1 < (R.n : Int)) ∧ is.length ≤ 100 ∧
  Pr (PV (.str (PyData.list (rowD R.n (zS R.n z is) is (costOf R is) false (ringText R))).shown)) H Q
abbrev N_law_due : List Str := ["_law_land_here", "_law_circle_here", "_law_first", "_law_done", "_law_letters", "_law_image", "_law_spent", "_law_order", "_law_shown", "_law_found"]
def t_law_due (M : Md) : TS := (tSeq (tPar3 4 5 6 (tCons (tCB rTupS (tCons (tVar 2) tNil)) (tCons (tTupRg (tRg1 (tOp (rIxL M.K) (tVar 0) (tC (.int 0))))) (tCons (tC (.int 0)) tNil))))
  (tSeq (tFor (iList M.K (tVar 3)) (gName 7) (tPar3 4 5 6 (tCons (tCall (sp_law_copied M) [] E0 (tCons (tVar 4) (tCons (tVar 7) tNil))) (tCons (tCall (sp_law_copied M) [] E0 (tCons (tVar 5) (tCons (tVar 7) tNil))) (tCons (tOp rAddI (tVar 6) (tOp (rIxT M.K) (tOp (rIxL M.K) (tVar 0) (tC (.int 3))) (tOp (rIxT M.K) (tVar 7) (tC (.int 0))))) tNil)))))
  (tSeq (tAsg (tOp rAddS (tOp rAddS (tOp rAddS (tOp rAddS (tC (.str "Recorder(")) (tCB rStrI (tCons (tOp (rIxL M.K) (tVar 0) (tC (.int 0))) tNil))) (tC (.str ", "))) (tCB rStrI (tCons (tCB (rLenQ M.K) (tCons (tVar 3) tNil)) tNil))) (tC (.str ")"))) (gName 8))
  (tSeq (tAsg (tLst (tCons (tM1 (rJoin M.K) (tC (.str "")) (tVar 4)) (tCons (tCB (rTupOf M.K) (tCons (tVar 3) tNil)) (tCons (tVar 5) (tCons (tVar 6) (tCons (tCB (rLenQ M.K) (tCons (tVar 3) tNil)) tNil)))))) (gName 9))
  (tRet (tCB (rReprD M.K) (tCons (tOp rCat (tVar 9) (tLst (tCons (tVar 8) (tCons (tVar 8) (tCons (tC (.bl false)) (tCons (tOp (rNeD M.K) (tVar 3) (tLst tNil)) (tCons (tCB (rOwnTxt M.ring (sp_Ring_str M)) (tCons (tVar 1) tNil)) tNil))))))) tNil)))))))
theorem costOf_snoc (R : RingD) (is : List Ins) (i : Ins) : costOf R (is ++ [i]) = costOf R is + R.prices.getD i.1.toNat 0 := by
  unfold costOf
  rw [List.map_append, List.sum_append]
  simp
theorem rd_law_due {M : Md} {vs : List V} {H : Hp} {Q : VK} {E : XK} (h : sp_law_due M vs H Q E) : t_law_due M { nx := fun _ H' => Q .non H', rt := Q } (start N_law_due vs) H := by
  obtain ⟨p, b, rv, R, z, is, rfl, hl, hr, ok, hz, hb, hi, hlen, q⟩ := h
  have n2 := ok.n2
  have n12 := ok.n12
  have zl : z.cps.toList.length = R.n := by
    rw [← hz.len]
    exact (TL.len_tl z).symm
  have kl : ∀ {σ : L2.St} {H1 : Hp}, σ[0]? = some (some (.ref p)) → Same H H1 → Ev (tVar 0) σ H1 (PL M (landD R)) := fun e s => ev_lstAt e (hl.s s)
  have kb : ∀ {σ : L2.St} {H1 : Hp}, σ[3]? = some (some (.ref b)) → Same H H1 → Ev (tVar 3) σ H1 (PL M (is.map insD)) := fun e s => ev_lstAt e (hb.s s)
  have kn : ∀ {σ : L2.St} {H1 : Hp}, σ[0]? = some (some (.ref p)) → Same H H1 → Ev (tOp (rIxL M.K) (tVar 0) (tC (.int 0))) σ H1 (PI (R.n : Int)) := fun e s => Ev.iD (ev_ixL (d := .int R.n) (kl e s) (fun _ _ => ev_c rfl) (at_nat (by decide) rfl))
  refine q_seq (q_par3P (P1 := PD M (.tuple (sgD z.cps.toList))) (P2 := PD M (dI (upTo R.n))) (P3 := PI 0) ?_ (fun _ H1 s1 _ => ?_) (fun _ _ H1 H2 s1 s2 _ _ => ev_c rfl) fun x y w H1 H2 H3 s1 s2 s3 hx hy hw => nx_go ?_)
  · rw [← sgD_eq]
    exact ev_tupS (ev_slot rfl) (by rw [hz.len]; omega)
  · exact ev_trange (kn rfl s1) (by omega)
  obtain rfl : w = .int 0 := hw
  have s13 : Same H H3 := (s1.trans s2).trans s3
  refine q_seq ?_
  have hL := evl_list (M := M) (σ := (((start N_law_due [.ref p, rv, .str z, .ref b]).set 4 (some x)).set 5 (some y)).set 6 (some (.int 0))) (H := H3) (ts := tVar 3) (kb rfl s13)
  rw [List.length_map] at hL
  refine s_for hL (fun j σ' Ha Hb => Same Ha Hb ∧ ∃ (u v : V) (c : Option V), σ' = [some (.ref p), some rv, some (.str z), some (.ref b), some u, some v, some (.int (costOf R (is.take j))), c, none, none] ∧ Dt M Hb u (.tuple (sgD (zL R.n z.cps.toList (is.take j)))) ∧ Dt M Hb v (dI (folS R.n (upTo R.n) (is.take j)))) ?_ (fun _ _ _ _ w => w.1) ?_ ?_
  · exact fun Ha s => ⟨Same.refl _, x, y, none, rfl, hx.kp (Kp.of ((s2.trans s3).trans s)), hy.kp (Kp.of (s3.trans s))⟩
  · intro j e σ' Ha Hb Hc hj sa w sb y'
    obtain ⟨sw, u, v, c, es, hu, hv⟩ := w
    subst es
    obtain ⟨d, hd, he⟩ := y'
    rw [List.getElem?_map] at hd
    obtain ⟨i, hij, rfl⟩ := Option.map_eq_some_iff.mp hd
    obtain ⟨i0, i1⟩ := hi i (List.mem_of_getElem? hij)
    have tk : is.take (j + 1) = is.take j ++ [i] := by
      rw [List.take_succ, hij]
      rfl
    have pre : ∀ i ∈ is.take j, 0 ≤ i.1 ∧ i.1 < (R.n : Int) := fun i h => hi i (List.mem_of_mem_take h)
    have hz1 := zL_ok n2 zl hz.az (is.take j) pre
    have hm1 := effL_len n2 pre (upTo_len R.n) upTo_mem
    have pl := ok.pl
    have sc : Same H Hc := (s13.trans sa).trans (sw.trans sb)
    show tPar3 4 5 6 _ _ [some (.ref p), some rv, some (.str z), some (.ref b), some u, some v, some (.int (costOf R (is.take j))), some e, none, none] Hc
    have cp : ∀ {σ : L2.St} {Hd : Hp} {ix : Nat} {u : V} {ds : List PyData}, σ[ix]? = some (some u) → σ[7]? = some (some e) → Same Hc Hd → Dt M Hd u (.tuple ds) → ds.length = R.n → Ev (tCall (sp_law_copied M) [] E0 (tCons (tVar ix) (tCons (tVar 7) tNil))) σ Hd (PD M (.tuple (stepL .none R.n i ds))) := fun e1 e7 s hu hl Q' q' =>
      ⟨_, e1, _, e7, _, _, _, i, R.n, rfl, hu, he.kp (Kp.of s), hl, n2, n12, i0, i1, q'⟩
    refine q_par3P (P1 := PD M (.tuple (stepL .none R.n i (sgD (zL R.n z.cps.toList (is.take j)))))) (P2 := PD M (.tuple (stepL .none R.n i ((folS R.n (upTo R.n) (is.take j)).map PyData.int)))) (P3 := PI (costOf R (is.take j) + R.prices.getD i.1.toNat 0)) (cp rfl rfl (Same.refl _) (hu.kp (Kp.of sb)) (by rw [List.length_map]; exact hz1.1)) (fun _ H4 s4 _ => cp rfl rfl s4 (hv.kp (Kp.of (sb.trans s4))) (by rw [List.length_map]; exact hm1.1)) (fun _ _ H4 H5 s4 s5 _ _ => ?_) fun x' y' w' H4 H5 H6 s4 s5 s6 h4 h5 h6 => ?_
    · refine ev_i0 (g := fun i j => .int (i + j)) (ev_slot rfl) fun H6 s6 => Ev.iD (ev_ix (d := .int (R.prices.getD i.1.toNat 0)) (ev_ixL (M := M) (d := dI R.prices) (kl rfl (sc.trans ((s4.trans s5).trans s6))) (fun _ _ => ev_c rfl) (at_nat (by decide) rfl)) (fun H7 s7 => Ev.iD (ev_ix (d := .int i.1) (ev_var rfl (he.kp (Kp.of (((s4.trans s5).trans s6).trans s7)))) (fun _ _ => ev_c rfl) (at_nat (by decide) rfl))) (at_nat i0 ?_))
      rw [List.getElem?_map, List.getD_eq_getElem?_getD, List.getElem?_eq_getElem (by omega)]
      rfl
    · obtain rfl : w' = .int (costOf R (is.take j) + R.prices.getD i.1.toNat 0) := h6
      refine ⟨(sw.trans sb).trans ((s4.trans s5).trans s6), x', y', some e, ?_, ?_, ?_⟩
      · rw [tk, costOf_snoc]
        rfl
      · rw [tk, zL_snoc]
        have h4' := h4.kp (Kp.of (M := M) (s5.trans s6))
        rw [stepL_any _ (PyData.str ⟨#[0]⟩) n2 i (by rw [List.length_map]; exact hz1.1)] at h4'
        have e' : sgD (stepL 0 R.n i (zL R.n z.cps.toList (is.take j))) = stepL (PyData.str ⟨#[0]⟩) R.n i (sgD (zL R.n z.cps.toList (is.take j))) := stepL_map (fun c => PyData.str (⟨#[c]⟩ : Str)) 0 R.n i _
        rw [e']
        exact h4'
      · rw [tk, folS_snoc]
        have h5' := h5.kp (Kp.of (M := M) s6)
        rw [stepL_any _ (PyData.int 0) n2 i (by rw [List.length_map]; exact hm1.1), ← stepL_map] at h5'
        exact h5'
  · rintro σ' Ha Hb sa ⟨sw, u, v, c, rfl, hu, hv⟩
    rw [List.take_length] at hu hv
    rw [List.take_length]
    have sb : Same H Hb := (s13.trans sa).trans sw
    have hz1 := zL_ok n2 zl hz.az is hi
    have hm1 := effL_len n2 hi (upTo_len R.n) upTo_mem
    obtain ⟨e1, e2, e3⟩ := lits
    have l1 : (numS R.n).length ≤ 6 := numS_len (by omega) (by decide) (by omega)
    have l2 : (numS is.length).length ≤ 6 := numS_len (by omega) (by decide) (by omega)
    refine nx_go (q_set (P := PV (.str (recText R.n is.length))) ?_ fun v8 H4 s4 h8 => ?_)
    · unfold recText
      refine ev_addS (ev_addS (ev_addS (ev_addS (ev_c rfl) (fun H5 s5 => ev_strI (kn rfl (sb.trans s5)) (small_log (by omega) (by omega))) (by show ("Recorder(" : Str).length + (numS R.n).length ≤ _; omega)) (fun _ _ => ev_c rfl) ?_) (fun H5 s5 => ?_) ?_) (fun _ _ => ev_c rfl) ?_
      · show (("Recorder(" : Str) ++ numS R.n).length + _ ≤ _
        rw [len_app]
        omega
      · refine ev_strI (Ev.toI (ev_lenL (kb rfl (sb.trans s5))) (by rw [List.length_map])) (small_log (by omega) (by omega))
      · show (("Recorder(" : Str) ++ numS R.n ++ (", " : Str)).length + (numS is.length).length ≤ _
        rw [len_app, len_app]
        omega
      · show (("Recorder(" : Str) ++ numS R.n ++ (", " : Str) ++ numS is.length).length + _ ≤ _
        rw [len_app, len_app, len_app]
        omega
    obtain rfl : v8 = .str (recText R.n is.length) := h8
    have hu4 := hu.kp (Kp.of (M := M) s4)
    have hv4 := hv.kp (Kp.of (M := M) s4)
    have s4' := sb.trans s4
    refine q_set (P := PL M [.str (zS R.n z is), .tuple (is.map insD), dI (effL R.n is), .int (costOf R is), .int (is.length : Nat)]) ?_ fun v9 H5 s5 h9 => ?_
    · refine ev_lst (ea1 (.dS ?_) fun H5 s5 => ea1 (ev_tupL (kb rfl (s4'.trans s5))) fun H6 s6 => ea1 (ev_var rfl (hv4.kp (Kp.of (s5.trans s6)))) fun H7 s7 => ea1 (.dI (ev_slot rfl)) fun H8 s8 => ea1 (.dI (Ev.toI (ev_lenL (kb rfl (s4'.trans (((s5.trans s6).trans s7).trans s8)))) (by rw [List.length_map]))) fun _ _ => ea0) (by show 5 ≤ 1000000; omega)
      have ej := ev_joinT (M := M) (σ := [some (.ref p), some rv, some (.str z), some (.ref b), some u, some v, some (.int (costOf R is)), c, some (.str (recText R.n is.length)), none]) (H := H4) (x := ("" : Str)) (ys := (zL R.n z.cps.toList is).map fun c => (⟨#[c]⟩ : Str)) (ta := tC (.str "")) (tb := tVar 4) (ev_c rfl) (fun H5 s5 => ev_var rfl (by rw [sgD_eq]; exact hu4.kp (Kp.of s5))) (by rw [sum_ones, hz1.1, List.length_map, show ("" : Str).length = 0 from rfl]; omega)
      rw [join_ones] at ej
      exact ej
    obtain ⟨p9, xs9, rfl, g1, g2⟩ := h9
    have s5' := s4'.trans s5
    have fl : Flt 2 (.list (is.map insD)) := .lst fun d hd => by
      obtain ⟨i, _, rfl⟩ := List.mem_map.mp hd
      exact insD_flt i
    have hzz : Letters R.n (zS R.n z is) := ⟨by show (zL R.n z.cps.toList is).toArray.size = _; rw [List.size_toArray]; exact hz1.1, fun c hc => hz1.2 c (by simpa [zS] using hc)⟩
    refine s_ret (P := PV (.str (PyData.list (rowD R.n (zS R.n z is) is (costOf R is) false (ringText R))).shown)) (ev_reprL (n := 3) (w := 1000000) ?_ (row_sm ok hzz hi hlen) (by decide) (by decide)) (q.s s5')
    unfold rowD
    refine ev_catL (ev_var rfl ⟨p9, xs9, rfl, g1, g2⟩) (fun H6 s6 => ev_lst (ea1 (.dS (ev_slot rfl)) fun _ t1 => ea1 (.dS (ev_slot rfl)) fun _ t2 => ea1 (.dB (ev_c rfl)) fun H7 s7 => ea1 (.dB (Ev.toB (ev_neD (kb rfl (s5'.trans (((s6.trans t1).trans t2).trans s7))).qL (fun H8 s8 => (ev_lst (M := M) ea0 (by decide)).qL) fl.shaped (Flt.lst (n := 0) (ds := []) fun d h => absurd h List.not_mem_nil).shaped) ?_)) fun H8 s8 =>
      ea1 (.dS (ev_ringStr (ev_var rfl (hr.kp (Kp.of (s5'.trans ((((s6.trans t1).trans t2).trans s7).trans s8))))) ok)) fun _ _ => ea0) (by show 5 ≤ 1000000; omega)) (by show 5 + 5 ≤ 1000000; omega)
    cases is with
    | nil => simp [PyData.eqv, PyData.eqvAll]
    | cons i is => simp [PyData.eqv, PyData.eqvAll]
end Crx

set_option maxHeartbeats 4000000
/-! L65x: the signs of a shown row. -/
namespace Crx
open PySem PySem.Spec PyProof.Rows L2 RZ

abbrev CpOk (z : Str) : Prop := ∀ c ∈ z.cps.toList, c < 1114112
/-- signs of the first table alone -/
abbrev Asc7 (z : Str) : Prop := ∀ c ∈ z.cps.toList, c < 127
theorem reprChar_ok : ∀ q ∈ [34, 39], ∀ c ∈ List.range 127, ∀ y ∈ Builtin.Str.reprChar q c, y < 1114112 := by decide +kernel
theorem fold_ok {q : Nat} (hq : q ∈ [34, 39]) : ∀ (l : List Nat) (acc : Array Nat), (∀ c ∈ l, c < 127) → (∀ c ∈ acc.toList, c < 1114112) → ∀ c ∈ (l.foldl (fun out c => out ++ (Builtin.Str.reprChar q c).toArray) acc).toList, c < 1114112
  | [], acc, _, h => h
  | c :: r, acc, hl, h => by
    rw [List.foldl_cons]
    refine fold_ok hq r _ (fun d hd => hl d (List.mem_cons_of_mem _ hd)) fun d hd => ?_
    rw [Array.toList_append] at hd
    rcases List.mem_append.mp hd with hd | hd
    · exact h d hd
    · exact reprChar_ok q hq c (List.mem_range.mpr (hl c (List.mem_cons_self ..))) d (by simpa using hd)
theorem repr_ok {z : Str} (h : Asc7 z) : CpOk (reprText z) := by
  have hq : reprQuote z ∈ [34, 39] := by
    unfold reprQuote
    split
    · exact List.mem_cons_self ..
    · exact List.mem_cons_of_mem _ (List.mem_cons_self ..)
  have hq2 : reprQuote z < 1114112 := by
    simp only [List.mem_cons, List.not_mem_nil, or_false] at hq
    omega
  intro c hc
  unfold reprText at hc
  rw [Array.toList_push, ← Array.foldl_toList] at hc
  rcases List.mem_append.mp hc with hc | hc
  · refine fold_ok hq z.cps.toList _ h (fun d hd => ?_) c hc
    rw [List.mem_singleton.mp (by simpa using hd : d ∈ [reprQuote z])]
    exact hq2
  · rw [List.mem_singleton.mp hc]
    exact hq2
theorem lit2 : CpOk ("[" : Str) ∧ CpOk ("]" : Str) ∧ CpOk ("(" : Str) ∧ CpOk (",)" : Str) ∧ CpOk (")" : Str) ∧ CpOk (", " : Str) ∧ CpOk ("" : Str) ∧ CpOk ("True" : Str) ∧ CpOk ("False" : Str) := by decide +kernel
theorem textFrom_ok : ∀ (ts : List Str) (k : Nat) (acc : Str), CpOk acc → (∀ t ∈ ts, CpOk t) → CpOk (textFrom k acc ts)
  | [], _, _, h, _ => h
  | t :: ts, k, acc, h, ht => by
    obtain ⟨a, b, c, d, e, f, g, _⟩ := lit2
    refine textFrom_ok ts (k + 1) _ (app_cps (app_cps h ?_) (ht t (List.mem_cons_self ..))) fun u hu => ht u (List.mem_cons_of_mem _ hu)
    split
    · exact f
    · exact g
theorem listText_ok {ts : List Str} (h : ∀ t ∈ ts, CpOk t) : CpOk (listText ts) := by
  obtain ⟨a, b, _⟩ := lit2
  exact app_cps (textFrom_ok ts 0 _ a h) b
theorem tupleText_ok {ts : List Str} (h : ∀ t ∈ ts, CpOk t) : CpOk (tupleText ts) := by
  obtain ⟨_, _, a, b, c, d, _⟩ := lit2
  unfold tupleText
  refine app_cps (app_cps a ?_) ?_
  · intro x hx
    have e : (Str.join ", " ts).cps.toList = TL.joinL (TL.tl (", " : Str)) (ts.map TL.tl) := TL.tl_join _ _
    rw [e] at hx
    refine joinL_mem (P := fun c => c < 1114112) d (fun p hp => ?_) x hx
    obtain ⟨t, ht, rfl⟩ := List.mem_map.mp hp
    exact h t ht
  · split
    · exact b
    · exact c
theorem shownAll_map : ∀ ds : List PyData, PyData.shownAll ds = ds.map PyData.shown
  | [] => by rw [PyData.shownAll]; rfl
  | d :: ds => by rw [PyData.shownAll, shownAll_map ds, List.map_cons]
/-- its text has valid signs -/
def Tx (d : PyData) : Prop := CpOk d.shown
theorem Tx.str {z : Str} (h : Asc7 z) : Tx (.str z) := by
  unfold Tx
  rw [PyData.shown]
  exact repr_ok h
theorem Tx.int {i : Int} (h : 0 ≤ i) : Tx (.int i) := by
  unfold Tx
  rw [PyData.shown]
  exact num_cps h
theorem Tx.bl (b : Bool) : Tx (.bool b) := by
  obtain ⟨_, _, _, _, _, _, _, t, f⟩ := lit2
  unfold Tx
  rw [PyData.shown]
  cases b
  · exact f
  · exact t
theorem Tx.tup {ds : List PyData} (h : ∀ d ∈ ds, Tx d) : Tx (.tuple ds) := by
  unfold Tx
  rw [PyData.shown, shownAll_map]
  refine tupleText_ok fun t ht => ?_
  obtain ⟨d, hd, rfl⟩ := List.mem_map.mp ht
  exact h d hd
theorem Tx.lst {ds : List PyData} (h : ∀ d ∈ ds, Tx d) : Tx (.list ds) := by
  unfold Tx
  rw [PyData.shown, shownAll_map]
  refine listText_ok fun t ht => ?_
  obtain ⟨d, hd, rfl⟩ := List.mem_map.mp ht
  exact h d hd
/-! ASCII texts -/
theorem num7 {i : Int} (h : 0 ≤ i) : Asc7 (numS i) := fun c hc => by
  obtain ⟨n, rfl⟩ := Int.eq_ofNat_of_zero_le h
  rw [cps_numS] at hc
  have := numL_dig hc
  omega
theorem app7 {x y : Str} (hx : Asc7 x) (hy : Asc7 y) : Asc7 (x ++ y) := fun c hc => by
  have e : (x ++ y).cps.toList = x.cps.toList ++ y.cps.toList := TL.tl_append x y
  rw [e] at hc
  rcases List.mem_append.mp hc with h | h
  · exact hx c h
  · exact hy c h
theorem lit7 : Asc7 ("Recorder(" : Str) ∧ Asc7 (", " : Str) ∧ Asc7 (")" : Str) ∧ Asc7 ("ring" : Str) ∧ Asc7 ("locks" : Str) ∧ Asc7 ("walls" : Str) ∧ Asc7 ("prices" : Str) ∧ Asc7 (" " : Str) ∧ Asc7 ("left" : Str) ∧ Asc7 ("right" : Str) := by decide +kernel
theorem rec7 (n k : Nat) : Asc7 (recText n k) := by
  obtain ⟨a, b, c, _⟩ := lit7
  exact app7 (app7 (app7 (app7 a (num7 (Int.natCast_nonneg n))) b) (num7 (Int.natCast_nonneg k))) c
theorem ring7 {R : RingD} (h : R.Ok) : Asc7 (ringText R) := by
  obtain ⟨a1, a2, a3, a4, a5, a6, a7, a8, _⟩ := lit7
  have e : (ringText R).cps.toList = TL.joinL (" " : Str).cps.toList ((ringWords R).map TL.tl) := by
    unfold ringText
    rw [TL.join_eq]
    exact TL.tl_join _ _
  unfold Asc7
  rw [e]
  refine joinL_mem a8 fun p hp => ?_
  obtain ⟨x, hx, rfl⟩ := List.mem_map.mp hp
  unfold ringWords at hx
  simp only [List.mem_append, List.mem_cons, List.not_mem_nil, or_false] at hx
  have hm : ∀ {ns : List Int}, (∀ i ∈ ns, 0 ≤ i) → x ∈ ns.map numS → ∀ c ∈ TL.tl x, c < 127 := fun hn z => by
    obtain ⟨i, hi, rfl⟩ := List.mem_map.mp z
    exact num7 (hn i hi)
  rcases hx with (((((rfl | rfl | rfl) | hp) | rfl) | hp) | rfl) | hp
  · exact a4
  · exact num7 (by omega)
  · exact a5
  · exact hm (fun i hi => (h.lock i hi).1) hp
  · exact a6
  · exact hm (fun i hi => (h.wall i hi).1) hp
  · exact a7
  · exact hm h.price hp
theorem row_tx {R : RingD} {z : Str} {is : List Ins} {run : Bool} (ok : R.Ok) (hz : Letters R.n z) (hi : ∀ i ∈ is, 0 ≤ i.1 ∧ i.1 < (R.n : Int)) : Tx (.list (rowD R.n z is (costOf R is) run (ringText R))) := by
  have cb := cost_bound ok hi
  have ef := effL_len ok.n2 hi (upTo_len R.n) upTo_mem
  obtain ⟨_, _, _, _, _, _, _, _, al, ar⟩ := lit7
  refine Tx.lst fun d hd => ?_
  unfold rowD at hd
  simp only [List.mem_append, List.mem_cons, List.not_mem_nil, or_false] at hd
  rcases hd with (rfl | rfl | rfl | rfl | rfl) | (rfl | rfl | rfl | rfl | rfl)
  · exact .str fun c hc => by have := hz.az c hc; omega
  · refine Tx.tup fun d hd => ?_
    obtain ⟨i, hi', rfl⟩ := List.mem_map.mp hd
    refine Tx.tup fun d hd => ?_
    rcases List.mem_cons.mp hd with rfl | hd
    · exact .int (hi i hi').1
    · rw [List.mem_singleton.mp hd]
      refine .str ?_
      cases i.2
      · exact ar
      · exact al
  · refine Tx.tup fun d hd => ?_
    obtain ⟨i, hi', rfl⟩ := List.mem_map.mp hd
    exact .int (ef.2 i hi').1
  · exact .int cb.1
  · exact .int (Int.natCast_nonneg _)
  · exact .str (rec7 _ _)
  · exact .str (rec7 _ _)
  · exact .bl _
  · exact .bl _
  · exact .str (ring7 ok)
/-- two shown rows in a list -/
theorem two_flt {z : Str} (h : CpOk z) : Flt 1 (.list [.str z, .str z]) := .lst fun d hd => by
  have e : d = .str z := by
    simp only [List.mem_cons, List.not_mem_nil, or_false, or_self] at hd
    exact hd
  subst e
  refine ⟨?_, by rw [PyData.depth]; exact Nat.zero_le _⟩
  rw [PyData.canLay0]
  exact strOk_of h
end Crx

set_option maxHeartbeats 4000000
/-! L65g: recorders are equal just where rings and contents are. -/
namespace Crx
open PySem PySem.Spec PyProof.Rows L2 RZ

/-! ### recorders made, compared -/
/-- what the two classes say of each other -/
structure Two (M : Md) : Prop where
  ne : M.recd ≠ M.ring
  no : PySem.W.kitOne M.K (.ref M.ring) (.ref M.recd) = some false
  nf : PySem.W.notFirst M.K M.recd (.ref M.ring) = true
/-- a value that is no recorder, as later heaps keep it -/
def OtherW (M : Md) (H : Hp) (y : V) : Prop := (∃ k, k ∈ ["NoneType", "int", "str", "tuple"] ∧ Kd M H y k) ∨ ∃ R, IsRing M H y R
theorem OtherW.s {M : Md} {H H' : Hp} {y : V} (h : OtherW M H y) (s : Same H H') : OtherW M H' y := by
  rcases h with ⟨k, hk, h⟩ | ⟨R, h⟩
  · exact .inl ⟨k, hk, h.s s⟩
  · exact .inr ⟨R, h.kp (Kp.of s)⟩
theorem OtherW.ty {M : Md} {H : Hp} {y : V} (I : ICls M.K M.ring) (J : ICls M.K M.recd) (T : Two M) (h : OtherW M H y) : ∃ t, TyX M.K H y t ∧ PySem.W.kitOne M.K t (.ref M.recd) = some false ∧ PySem.W.notFirst M.K M.recd t = true := by
  rcases h with ⟨k, hk, h⟩ | ⟨R, b, dx, w1, w2, w3, rfl, g1, _⟩
  · exact ⟨_, h.tyx, J.no k hk, J.nf k hk⟩
  · exact ⟨_, I.ty g1, T.no, T.nf⟩
section
variable {M : Md} {σ : L2.St} {H : Hp} {ta tb tc te : TE} {a b l l' : Addr} {D F : RecD} {R : RingD} {z : Str}
theorem ev_recEq (J : ICls M.K M.recd) (ha : Ev ta σ H (PC M a l D)) (hb : ∀ H1, Same H H1 → Ev tb σ H1 (PC M b l' F)) : Ev (tOp (rOwnQ M.K M.recd (sp_Recorder_eq M)) ta tb) σ H (PB (eqC D F)) :=
  ev_op ha (fun _ H1 s1 _ => hb H1 s1) fun x y H1 H2 s1 s2 ⟨e1, p1⟩ ⟨e2, p2⟩ Q q => by
    subst e1 e2
    have p1' := p1.s s2
    obtain ⟨dx, rv, g1, g2⟩ := id p1'
    obtain ⟨dy, rw', f1, f2⟩ := id p2
    exact ⟨a, dx, _, .ref M.recd, rfl, g1, J.ty f1, first_me _ _, a, l, D, _, rfl, p1', .inl ⟨b, l', F, rfl, p2, q⟩⟩
theorem ev_recNe (J : ICls M.K M.recd) (ha : Ev ta σ H (PC M a l D)) (hb : ∀ H1, Same H H1 → Ev tb σ H1 (PC M b l' F)) : Ev (tOp (rOwnN M.K M.recd (sp_Recorder_eq M)) ta tb) σ H (PB (!eqC D F)) :=
  ev_op ha (fun _ H1 s1 _ => hb H1 s1) fun x y H1 H2 s1 s2 ⟨e1, p1⟩ ⟨e2, p2⟩ Q q => by
    subst e1 e2
    have p1' := p1.s s2
    obtain ⟨dx, rv, g1, g2⟩ := id p1'
    obtain ⟨dy, rw', f1, f2⟩ := id p2
    exact ⟨a, dx, _, .ref M.recd, rfl, g1, J.ty f1, first_me _ _, a, l, D, _, rfl, p1', .inl ⟨b, l', F, rfl, p2, fun v H' s e => ⟨eqC D F, e, q _ H' s rfl⟩⟩⟩
theorem ev_recOther (I : ICls M.K M.ring) (J : ICls M.K M.recd) (T : Two M) (ha : Ev ta σ H (PC M a l D)) (hb : ∀ H1, Same H H1 → Ev tb σ H1 fun v H' => OtherW M H' v) : Ev (tOp (rOwnQ M.K M.recd (sp_Recorder_eq M)) ta tb) σ H (PB false) :=
  ev_op ha (fun _ H1 s1 _ => hb H1 s1) fun x y H1 H2 s1 s2 ⟨e1, p1⟩ p2 Q q => by
    subst e1
    have p1' := p1.s s2
    obtain ⟨dx, rv, g1, g2⟩ := id p1'
    obtain ⟨t, h1, h2, h3⟩ := p2.ty I J T
    exact ⟨a, dx, _, t, rfl, g1, h1, h3, a, l, D, _, rfl, p1', .inr ⟨⟨t, h1, h2⟩, q⟩⟩
/-- a new recorder, at places of its own -/
abbrev PNew (M : Md) (H0 : Hp) (R : RingD) (z : Str) : V → Hp → Prop := fun v H' => ∃ a l, v = .ref a ∧ H0 a = none ∧ H0 l = none ∧ IsRec M H' a l ⟨R, z, [], false, 0⟩
theorem none_of {H H' : Hp} {b : Addr} (s : Same H H') (h : H' b = none) : H b = none := by
  cases e : H b with
  | none => rfl
  | some o =>
    have := s _ _ e
    rw [h] at this
    cases this
theorem ev_mkRec (ha : Ev ta σ H (PR M R)) (hb : ∀ H1, Same H H1 → Ev tb σ H1 (PV (.str z))) (ok : R.Ok) (hz : Letters R.n z) : Ev (tMake M.recd (sp_Recorder_init M) [] E0 (tCons ta (tCons tb tNil))) σ H (PNew M H R z) := fun Q q =>
  ha _ fun rv H1 s1 h1 => hb H1 s1 _ fun y H2 s2 e2 => by
    obtain rfl : y = .str z := e2
    intro x dx hx hdx hne
    have s12 := s1.trans s2
    have sn : Same H2 (upd (upd H2 dx (.own x)) x (.ins M.recd dx [])) := same_mut (same_new hdx) hx
    have hl : ∀ l, (upd (upd H2 dx (.own x)) x (.ins M.recd dx [])) l = none → H l = none := fun l e => none_of (s12.trans sn) e
    refine ⟨x, dx, rv, R, z, rfl, upd_same, h1.kp (Kp.of (s2.trans sn)), ok, hz, fun H' l hl' hk hr => ⟨rfl, q _ H' (fun b o e => ?_) ⟨x, l, rfl, none_of s12 hx, hl l hl', hr⟩⟩⟩
    exact hk b o (fun z => by rw [z] at e; have := s12 _ _ e; rw [hx] at this; cases this) (sn _ _ (s12 _ _ e))
def mk_Recorder_0_content_ring_g (M : Md) : List V → List V → List V := fun vs zs => [vs.getD 0 .non, zs.getD 1 .non, zs.getD 0 .non]
theorem ev_mkRecK (ha : Ev ta σ H (PV (.str z))) (hb : ∀ H1, Same H H1 → Ev tb σ H1 (PR M R)) (ok : R.Ok) (hz : Letters R.n z) : Ev (tMakeK M.recd 0 2 (sp_Recorder_init M) (mk_Recorder_0_content_ring_g M) E0 tNil (tCons ta (tCons tb tNil))) σ H (PNew M H R z) := fun Q q =>
  ha _ fun y H1 s1 e1 => hb H1 s1 _ fun rv H2 s2 h2 => by
    obtain rfl : y = .str z := e1
    refine ⟨rfl, rfl, fun x dx hx hdx hne => ?_⟩
    have s12 := s1.trans s2
    have sn : Same H2 (upd (upd H2 dx (.own x)) x (.ins M.recd dx [])) := same_mut (same_new hdx) hx
    have hl : ∀ l, (upd (upd H2 dx (.own x)) x (.ins M.recd dx [])) l = none → H l = none := fun l e => none_of (s12.trans sn) e
    refine ⟨x, dx, rv, R, z, rfl, upd_same, h2.kp (Kp.of sn), ok, hz, fun H' l hl' hk hr => ⟨rfl, q _ H' (fun b o e => ?_) ⟨x, l, rfl, none_of s12 hx, hl l hl', hr⟩⟩⟩
    exact hk b o (fun z => by rw [z] at e; have := s12 _ _ e; rw [hx] at this; cases this) (sn _ _ (s12 _ _ e))
/-! any values in a list -/
def AllO (M : Md) (k : Nat) : List V → Hp → Prop := fun vs H => vs.length = k ∧ ∀ v ∈ vs, OtherW M H v
theorem eo0 : EvA tNil σ H (AllO M 0) := fun Q q => q [] H (Same.refl _) ⟨rfl, fun v h => nomatch h⟩
theorem eo1 {tr : TA} {k : Nat} (ha : Ev ta σ H fun v H' => OtherW M H' v) (hr : ∀ H1, Same H H1 → EvA tr σ H1 (AllO M k)) : EvA (tCons ta tr) σ H (AllO M (k + 1)) := fun Q q =>
  ha _ fun x H1 s1 p1 => hr H1 s1 _ fun xs H2 s2 ⟨p2, p3⟩ => q _ H2 (s1.trans s2) ⟨by rw [List.length_cons, p2], fun v hv => by
    rcases List.mem_cons.mp hv with rfl | hv
    · exact p1.s s2
    · exact p3 v hv⟩
theorem evl_raw {tr : TA} {k : Nat} (h : EvA tr σ H (AllO M k)) (hk : k ≤ 1000) : EvL (iList M.K (tLst tr)) σ H k fun i x H' => OtherW M H' x := fun R q =>
  h _ fun vs H1 s1 ⟨p1, p2⟩ => ⟨Nat.le_trans (m := 1000000) (by omega) (by decide), fun p hp => by
    have sn : Same H1 (upd H1 p (.lst vs)) := same_new hp
    refine ⟨p, rfl, ⟨vs, SqL.of upd_same⟩, q (Itl M.K p) _ (fun H' => H' p = some (.lst vs) ∧ ∀ v ∈ vs, OtherW M H' v) (s1.trans sn) ⟨upd_same, fun v hv => (p2 v hv).s sn⟩ (fun H' H'' k z => ⟨k _ _ z.1, fun v hv => (z.2 v hv).s k⟩) (fun i H' z hi => ?_) (fun H' z => ⟨vs, SqL.of z.1, by omega⟩) fun i H' y H'' z hi yl => ?_⟩
    · have hx : i < vs.length := by omega
      exact ⟨vs, vs[i], SqL.of z.1, List.getElem?_eq_getElem hx⟩
    · obtain ⟨e1, e2⟩ := yl
      subst e1
      exact ⟨Same.refl _, z.2 y (List.mem_of_getElem? (e2 vs (SqL.of z.1)))⟩⟩
end
theorem Ev.oN {M : Md} {σ : L2.St} {H : Hp} {te : TE} (h : Ev te σ H (PV .non)) : Ev te σ H fun v H' => OtherW M H' v := h.imp fun v H' _ e => by rw [show v = V.non from e]; exact .inl ⟨"NoneType", by decide, .non⟩
theorem Ev.oI {M : Md} {σ : L2.St} {H : Hp} {te : TE} {i : Int} (h : Ev te σ H (PI i)) : Ev te σ H fun v H' => OtherW M H' v := h.imp fun v H' _ e => by rw [show v = V.int i from e]; exact .inl ⟨"int", by decide, .int i⟩
theorem Ev.oS {M : Md} {σ : L2.St} {H : Hp} {te : TE} {z : Str} (h : Ev te σ H (PV (.str z))) : Ev te σ H fun v H' => OtherW M H' v := h.imp fun v H' _ e => by rw [show v = V.str z from e]; exact .inl ⟨"str", by decide, .str z⟩
theorem Ev.oT {M : Md} {σ : L2.St} {H : Hp} {te : TE} {ds : List PyData} (h : Ev te σ H (PD M (.tuple ds))) : Ev te σ H fun v H' => OtherW M H' v := h.imp fun v H' _ p => .inl ⟨"tuple", by decide, p.kd⟩
theorem Ev.oR {M : Md} {σ : L2.St} {H : Hp} {te : TE} {R : RingD} (h : Ev te σ H (PR M R)) : Ev te σ H fun v H' => OtherW M H' v := h.imp fun v H' _ p => .inr ⟨R, p⟩

theorem a_par {σ : L2.St} {H : Hp} {i j : Nat} {ta : TA} {D : Ends} (h : ta σ H fun vs H1 => ∃ v w, vs = [v, w] ∧ D.nx ((σ.set i (some v)).set j (some w)) H1) : tPar i j ta D σ H := h
theorem eqR_me (R : RingD) : eqR R R = true := by unfold eqR; simp
def sp_law_equal_right (M : Md) : Sp := fun vs H Q _ => ∃ (p a l : Addr) (rv : V) (R : RingD) (z : Str) (D : RecD), vs = [.ref p, rv, .str z, .ref a] ∧ LstAt M H p (landD R) ∧ IsRing M H rv R ∧ R.Ok ∧ Letters R.n z ∧ IsRec M H a l D ∧ D.R = R ∧ D.Ok ∧ D.done.length ≤ 100 ∧ Pr (PB true) H Q
abbrev N_law_equal_right : List Str := ["_law_land_here", "_law_circle_here", "_law_word", "_law_recorder", "_law_dear", "_law_fee", "_law_same", "_law_other", "_law_thing"]
def t_law_equal_right (M : Md) : TS := (tSeq (tAsg (tMakeK M.ring 1 3 (sp_Ring_init M) (mk_Ring_1_locks_walls_prices_g M) E0 (tCons (tOp (rIxL M.K) (tVar 0) (tC (.int 0))) tNil) (tCons (tOp (rIxL M.K) (tVar 0) (tC (.int 1))) (tCons (tOp (rIxL M.K) (tVar 0) (tC (.int 2))) (tCons (tCB (rTupOf M.K) (tCons (tLc (iTup M.K (tOp (rIxL M.K) (tVar 0) (tC (.int 3)))) (gName 5) tYes (tOp rAddI (tOp rModI (tVar 5) (tC (.int 999))) (tC (.int 1))) [5]) tNil)) tNil)))) (gName 4))
  (tSeq (tPar 6 7 (tCons (tMake M.recd (sp_Recorder_init M) [] E0 (tCons (tVar 1) (tCons (tMeth M.recd "held" (sp_Recorder_held M) [] E0 (tVar 3) tNil) tNil))) (tCons (tMake M.recd (sp_Recorder_init M) [] E0 (tCons (tVar 4) (tCons (tMeth M.recd "held" (sp_Recorder_held M) [] E0 (tVar 3) tNil) tNil))) tNil)))
  (tSeq (tIfS (tOr (tNot (tTest (tOp (rOwnQ M.K M.recd (sp_Recorder_eq M)) (tVar 3) (tVar 6)))) (tOr (tTest (tOp (rOwnN M.K M.recd (sp_Recorder_eq M)) (tVar 3) (tVar 6))) (tOr (tTest (tOp (rOwnQ M.K M.recd (sp_Recorder_eq M)) (tVar 3) (tVar 7))) (tNot (tTest (tOp (rOwnN M.K M.recd (sp_Recorder_eq M)) (tVar 3) (tVar 7))))))) (tRet (tC (.bl false))) tNext)
  (tSeq (tIfS (tTest (tOp rNe (tOp (rOwnQ M.K M.recd (sp_Recorder_eq M)) (tVar 3) (tMake M.recd (sp_Recorder_init M) [] E0 (tCons (tVar 1) (tCons (tVar 2) tNil)))) (tOp rEq (tVar 2) (tMeth M.recd "held" (sp_Recorder_held M) [] E0 (tVar 3) tNil)))) (tRet (tC (.bl false))) tNext)
  (tRet (tNotV (tCB (rAny M.K) (tCons (tLc (iList M.K (tLst (tCons (tC .non) (tCons (tC (.int 0)) (tCons (tC (.str "")) (tCons (tVar 2) (tCons (tVar 1) (tCons (tMeth M.recd "recorded" (sp_Recorder_recorded M) [] E0 (tVar 3) tNil) (tCons (tCB (rOwnTxt M.recd (sp_Recorder_repr M)) (tCons (tVar 3) tNil)) tNil))))))))) (gName 8) tYes (tOp (rOwnQ M.K M.recd (sp_Recorder_eq M)) (tVar 3) (tVar 8)) [8]) tNil))))))))
/-- other prices -/
def dear (R : RingD) : RingD := { R with prices := R.prices.map fun f => f % 999 + 1 }
theorem dear_ok {R : RingD} (ok : R.Ok) : (dear R).Ok := ⟨ok.n2, ok.n12, ok.lk, ok.wl, by show (R.prices.map _).length = _; rw [List.length_map]; exact ok.pl, fun p hp => by
  obtain ⟨f, hf, rfl⟩ := List.mem_map.mp hp
  have := ok.pr f hf
  omega⟩
theorem dear_ne {R : RingD} (ok : R.Ok) : eqR R (dear R) = false := by
  have h : R.prices ≠ (dear R).prices := fun e => by
    have pl := ok.pl
    have n2 := ok.n2
    have h0 : R.prices[0]? = ((dear R).prices)[0]? := by rw [← e]
    have hg : R.prices[0]? = some (R.prices[0]'(by omega)) := List.getElem?_eq_getElem _
    rw [show (dear R).prices = R.prices.map fun f => f % 999 + 1 from rfl, List.getElem?_map, hg] at h0
    have h1 : R.prices[0]'(by omega) = R.prices[0]'(by omega) % 999 + 1 := Option.some.inj h0
    have h2 := ok.pr _ (List.getElem_mem (by omega : 0 < R.prices.length))
    omega
  unfold eqR
  rw [decide_eq_false h]
  simp
theorem rd_law_equal_right {M : Md} (C : CCls M) (CR : RCls M) (I : ICls M.K M.ring) (J : ICls M.K M.recd) (T : Two M) {vs : List V} {H : Hp} {Q : VK} {E : XK} (h : sp_law_equal_right M vs H Q E) : t_law_equal_right M { nx := fun _ H' => Q .non H', rt := Q } (start N_law_equal_right vs) H := by
  obtain ⟨p, a, l, rv, R, z, D, rfl, hl, hr, ok, hz, hd, hDR, okD, hlen, q⟩ := h
  have n12 := ok.n12
  have pl := ok.pl
  have kl : ∀ {σ : L2.St} {H1 : Hp}, σ[0]? = some (some (.ref p)) → Same H H1 → Ev (tVar 0) σ H1 (PL M (landD R)) := fun e s => ev_lstAt e (hl.s s)
  have ka : ∀ {σ : L2.St} {H1 : Hp}, σ[3]? = some (some (.ref a)) → Same H H1 → Ev (tVar 3) σ H1 (PC M a l D) := fun e s => ev_var e ⟨rfl, hd.s s⟩
  have kh : ∀ {σ : L2.St} {H1 : Hp}, σ[3]? = some (some (.ref a)) → Same H H1 → Ev (tMeth M.recd "held" (sp_Recorder_held M) [] E0 (tVar 3) tNil) σ H1 (PV (.str D.z)) := fun e s => ev_rmeth (P := PV (.str D.z)) (ka e s) (m_names _ (by decide +kernel)) fun H1 Q h q => ⟨a, l, D, rfl, h, q⟩
  have hzD : Letters R.n D.z := by rw [← hDR]; exact okD.z
  refine q_set (P := PR M (dear R)) ?_ fun v4 H1 s1 h4 => ?_
  · have e := ev_mkRing13 (M := M) (σ := start N_law_equal_right [.ref p, rv, .str z, .ref a]) (H := H) (n := R.n) (l := R.locks) (w := R.walls) (p := (dear R).prices) (ta := tOp (rIxL M.K) (tVar 0) (tC (.int 0))) (tl := tOp (rIxL M.K) (tVar 0) (tC (.int 1))) (tw := tOp (rIxL M.K) (tVar 0) (tC (.int 2)))
      (tp := tCB (rTupOf M.K) (tCons (tLc (iTup M.K (tOp (rIxL M.K) (tVar 0) (tC (.int 3)))) (gName 5) tYes (tOp rAddI (tOp rModI (tVar 5) (tC (.int 999))) (tC (.int 1))) [5]) tNil))
      (Ev.iD (ev_ixL (d := .int R.n) (kl rfl (Same.refl _)) (fun _ _ => ev_c rfl) (at_nat (by decide) rfl))) (fun H2 s2 => ev_ixL (d := dI R.locks) (kl rfl s2) (fun _ _ => ev_c rfl) (at_nat (by decide) rfl)) (fun H2 s2 => ev_ixL (d := dI R.walls) (kl rfl s2) (fun _ _ => ev_c rfl) (at_nat (by decide) rfl)) (fun H2 s2 => ev_tupL ?_) (dear_ok ok).args
    · rw [show mkRing R.n R.locks R.walls (dear R).prices = dear R from (dear_ok ok).same] at e
      exact e
    · have e2 : (List.range R.prices.length).map (fun i => PyData.int (R.prices.getD i 0 % 999 + 1)) = (dear R).prices.map PyData.int := by
        show _ = (R.prices.map fun f => f % 999 + 1).map PyData.int
        rw [List.map_map]
        refine map_range_get rfl fun i f h => ?_
        rw [List.getD_eq_getElem?_getD, h]
        rfl
      rw [← e2]
      refine ev_lc1 (n := R.prices.length) (e := fun i => PyData.int (R.prices.getD i 0 % 999 + 1)) (evi_tupI (ev_ixL (d := dI R.prices) (kl rfl s2) (fun _ _ => ev_c rfl) (at_nat (by decide) rfl))).toL ?_ (fun x => wipe_set1 x) (by omega) (fun j y Ha Hb s h => h)
      rintro i y H3 hi s3 ⟨f, hf, rfl⟩
      rw [List.getD_eq_getElem?_getD, hf, Option.getD_some]
      exact .dI (ev_i0 (g := fun i j => .int (i + j)) (ev_i (g := fun i j => .int (i % j)) (ev_slot rfl) (fun _ _ => ev_c rfl) (by decide)) fun _ _ => ev_c rfl)
  have e6 : Ev (tMake M.recd (sp_Recorder_init M) [] E0 (tCons (tVar 1) (tCons (tMeth M.recd "held" (sp_Recorder_held M) [] E0 (tVar 3) tNil) tNil))) ((start N_law_equal_right [.ref p, rv, .str z, .ref a]).set 4 (some v4)) H1 (PNew M H1 R D.z) := ev_mkRec (ev_var rfl (hr.kp (Kp.of s1))) (fun H2 s2 => kh rfl (s1.trans s2)) ok hzD
  refine q_seq (a_par (a_cons (e6 _ fun v6 H2 s2 ⟨b6, l6, e, _, _, h6⟩ => ?_)))
  subst e
  have e7 : Ev (tMake M.recd (sp_Recorder_init M) [] E0 (tCons (tVar 4) (tCons (tMeth M.recd "held" (sp_Recorder_held M) [] E0 (tVar 3) tNil) tNil))) ((start N_law_equal_right [.ref p, rv, .str z, .ref a]).set 4 (some v4)) H2 (PNew M H2 (dear R) D.z) := ev_mkRec (ev_var rfl (h4.kp (Kp.of s2))) (fun H3 s3 => kh rfl ((s1.trans s2).trans s3)) (dear_ok ok) hzD
  refine a_cons (e7 _ fun v7 H3 s3 ⟨b7, l7, e, _, _, h7⟩ => ⟨_, _, rfl, nx_go ?_⟩)
  subst e
  have s13 : Same H H3 := (s1.trans s2).trans s3
  have k6 : ∀ {σ : L2.St} {H4 : Hp}, σ[6]? = some (some (.ref b6)) → Same H3 H4 → Ev (tVar 6) σ H4 (PC M b6 l6 ⟨R, D.z, [], false, 0⟩) := fun e s => ev_var e ⟨rfl, h6.s (s3.trans s)⟩
  have k7 : ∀ {σ : L2.St} {H4 : Hp}, σ[7]? = some (some (.ref b7)) → Same H3 H4 → Ev (tVar 7) σ H4 (PC M b7 l7 ⟨dear R, D.z, [], false, 0⟩) := fun e s => ev_var e ⟨rfl, h7.s s⟩
  have q6 : eqC D ⟨R, D.z, [], false, 0⟩ = true := by
    unfold eqC
    rw [hDR, eqR_me, decide_eq_true rfl]
    rfl
  have q7 : eqC D ⟨dear R, D.z, [], false, 0⟩ = false := by
    unfold eqC
    rw [hDR, dear_ne ok]
    rfl
  show tSeq _ _ _ [some (.ref p), some rv, some (.str z), some (.ref a), some v4, none, some (.ref b6), some (.ref b7), none] H3
  refine q_no ((eb_or (b := false) (c := false) ((eb_not (eb_test (Ev.toB (ev_recEq J (ka rfl s13) fun H4 s4 => k6 rfl s4) q6))).to rfl) fun _ H4 s4 => (eb_or (b := false) (c := false) (eb_test (Ev.toB (ev_recNe J (ka rfl (s13.trans s4)) fun H5 s5 => k6 rfl (s4.trans s5)) (by rw [q6]; rfl))) fun _ H5 s5 =>
    (eb_or (b := false) (c := false) (eb_test (Ev.toB (ev_recEq J (ka rfl (s13.trans (s4.trans s5))) fun H6 s6 => k7 rfl ((s4.trans s5).trans s6)) q7)) fun _ H6 s6 => (eb_not (eb_test (Ev.toB (ev_recNe J (ka rfl (s13.trans ((s4.trans s5).trans s6))) fun H7 s7 => k7 rfl (((s4.trans s5).trans s6).trans s7)) (congrArg Bool.not q7)))).to rfl).to rfl).to rfl).to rfl) fun H4 s4 => ?_
  have s14 := s13.trans s4
  refine q_no (eb_test ?_) fun H5 s5 => ?_
  · have e8 : Ev (tOp (rOwnQ M.K M.recd (sp_Recorder_eq M)) (tVar 3) (tMake M.recd (sp_Recorder_init M) [] E0 (tCons (tVar 1) (tCons (tVar 2) tNil)))) [some (.ref p), some rv, some (.str z), some (.ref a), some v4, none, some (.ref b6), some (.ref b7), none] H4 (PB (decide (D.z = z))) := fun Q' q' =>
      ka rfl s14 _ fun x H5 s5 ⟨ex, hx⟩ => ev_mkRec (ev_var rfl (hr.kp (Kp.of (s14.trans s5)))) (fun H6 s6 => ev_slot rfl) ok hz _ fun y H6 s6 ⟨b8, l8, ey, _, _, h8⟩ => by
        subst ex ey
        have hx' := hx.s s6
        obtain ⟨dx, rv', g1, g2⟩ := id hx'
        obtain ⟨dy, rw', f1, f2⟩ := id h8
        refine ⟨a, dx, _, .ref M.recd, rfl, g1, J.ty f1, first_me _ _, a, l, D, _, rfl, hx', .inl ⟨b8, l8, _, rfl, h8, fun v H' s e => q' v H' ((s5.trans s6).trans s) ?_⟩⟩
        have ee : eqC D ⟨R, z, [], false, 0⟩ = decide (D.z = z) := by
          unfold eqC
          rw [hDR, eqR_me, Bool.true_and]
        rw [ee] at e
        exact e
    refine Ev.toB (ev_ne e8 (fun H5 s5 => ev_eq (x := .str z) (y := .str D.z) (ev_slot rfl) (fun H6 s6 => kh rfl ((s14.trans s5).trans s6)) rfl) rfl) ?_
    have ee : decide (V.str z = V.str D.z) = decide (D.z = z) := decide_eq_decide.mpr ⟨fun e => (V.str.inj e).symm, fun e => by rw [e]⟩
    rw [ee]
    simp
  · have s15 := s14.trans s5
    refine s_ret (P := PB true) (Ev.toB (ev_notV (b := false) ?_) rfl) (q.s s15)
    have eA := ev_any (M := M) (σ := [some (.ref p), some rv, some (.str z), some (.ref a), some v4, none, some (.ref b6), some (.ref b7), none]) (H := H5) (bs := (List.range 7).map fun _ => false) (te := tLc (iList M.K (tLst (tCons (tC .non) (tCons (tC (.int 0)) (tCons (tC (.str "")) (tCons (tVar 2) (tCons (tVar 1) (tCons (tMeth M.recd "recorded" (sp_Recorder_recorded M) [] E0 (tVar 3) tNil) (tCons (tCB (rOwnTxt M.recd (sp_Recorder_repr M)) (tCons (tVar 3) tNil)) tNil))))))))) (gName 8) tYes (tOp (rOwnQ M.K M.recd (sp_Recorder_eq M)) (tVar 3) (tVar 8)) [8]) ?_
    · exact eA
    · rw [List.map_map]
      refine ev_lc1 (n := 7) (e := fun _ => PyData.bool false) (evl_raw (M := M) (k := 7) (eo1 (Ev.oN (ev_c rfl)) fun H6 s6 => eo1 (Ev.oI (i := 0) (ev_c rfl)) fun H7 s7 => eo1 (Ev.oS (ev_c rfl)) fun H8 s8 => eo1 (Ev.oS (ev_slot rfl)) fun H9 s9 => eo1 (Ev.oR (ev_var rfl (hr.kp (Kp.of (s15.trans (((s6.trans s7).trans s8).trans s9)))))) fun H10 s10 =>
        eo1 (Ev.oT (ds := D.ins.map insD) (ev_rmeth (P := PD M (.tuple (D.ins.map insD))) (ka rfl (s15.trans ((((s6.trans s7).trans s8).trans s9).trans s10))) (m_names _ (by decide +kernel)) fun H1 Q h q => ⟨a, l, D, rfl, h, by omega, q⟩)) fun H11 s11 => eo1 (Ev.oS (ev_rtxt (ka rfl (s15.trans (((((s6.trans s7).trans s8).trans s9).trans s10).trans s11))) (by rw [hDR]; omega) (by omega))) fun _ _ => eo0) (by decide)) ?_ (fun x => wipe_set1 x) (by decide) (fun j y Ha Hb s h => h.s s)
      intro j y H6 hj s6 hy
      exact .dB (ev_recOther I J T (ka rfl (s15.trans s6)) fun H7 s7 => ev_var rfl (hy.s s7))
end Crx

set_option maxHeartbeats 4000000
/-! L65h: the law's own two defs. -/
namespace Crx
open PySem PySem.Spec PyProof.Rows L2 RZ

/-! ### plain: one write -/
theorem zs_len {n : Nat} {z : Str} (h : Letters n z) : z.cps.toList.length = n := by
  rw [← h.len]
  exact (TL.len_tl z).symm
theorem map_upTo {n : Nat} {zs : List Nat} (h : zs.length = n) : ((upTo n).map fun i => zs.getD i.toNat 0) = zs := by
  unfold upTo
  rw [List.map_map]
  apply List.ext_getElem?
  intro i
  rw [List.getElem?_map]
  by_cases hi : i < n
  · rw [List.getElem?_range hi, List.getElem?_eq_getElem (by omega)]
    show some (zs.getD (Int.toNat (i : Int)) 0) = _
    rw [Int.toNat_natCast, List.getD_eq_getElem?_getD, List.getElem?_eq_getElem (by omega), Option.getD_some]
  · rw [List.getElem?_eq_none_iff.mpr (by rw [List.length_range]; omega), List.getElem?_eq_none_iff.mpr (by omega)]
    rfl
theorem gat_step {n : Nat} (hn : 2 ≤ n) {z : Str} (h : z.cps.toList.length = n) (i : Ins) : gatS z (stepL 0 n i (upTo n)) = ⟨(stepL 0 n i z.cps.toList).toArray⟩ := by
  unfold gatS
  rw [stepL_map, map_upTo h, stepL_any _ (0 : Nat) hn i h]
theorem zS_nil (n : Nat) (z : Str) : zS n z [] = z := by
  unfold zS zL
  rw [List.foldl_nil, Array.toArray_toList]
theorem zS_ok {n : Nat} (hn : 2 ≤ n) {z : Str} (h : Letters n z) {is : List Ins} (hi : ∀ i ∈ is, 0 ≤ i.1 ∧ i.1 < (n : Int)) : Letters n (zS n z is) := by
  have e := zL_ok hn (zs_len h) h.az is hi
  refine ⟨?_, fun c hc => e.2 c (by simpa [zS] using hc)⟩
  show (zL n z.cps.toList is).toArray.size = n
  rw [List.size_toArray]
  exact e.1
theorem zS_snoc {n : Nat} (hn : 2 ≤ n) {z : Str} (h : Letters n z) {is : List Ins} (hi : ∀ i ∈ is, 0 ≤ i.1 ∧ i.1 < (n : Int)) (i : Ins) : gatS (zS n z is) (stepL 0 n i (upTo n)) = zS n z (is ++ [i]) := by
  rw [gat_step hn (zs_len (zS_ok hn h hi))]
  unfold zS
  rw [zL_snoc]
/-! ### what one write changes -/
/-- all but three objects stand -/
def K3 (b l q : Addr) (H H' : Hp) : Prop := ∀ x o, x ≠ b → x ≠ l → x ≠ q → H x = some o → H' x = some o
theorem kp_two {M : Md} (hne : M.recd ≠ M.ring) {H H' : Hp} {b l dx : Addr} {fs : List (Str × V)} {xs : List V} (hb : H b = some (.ins M.recd dx fs)) (hl : H l = some (.lst xs)) (k : ∀ x o, x ≠ b → x ≠ l → H x = some o → H' x = some o) : Kp M H H' := ⟨fun x ys e => by
  rcases e with e | ⟨o, e⟩
  · exact .inl (k _ _ (ne_of e hb fun z => nomatch z) (ne_of e hl fun z => nomatch z) e)
  · exact .inr ⟨o, k _ _ (ne_of e hb fun z => nomatch z) (ne_of e hl fun z => nomatch z) e⟩, fun x dx' fs' e => k _ _ (ne_of e hb fun z => hne (HO.ins.inj z).1.symm) (ne_of e hl fun z => nomatch z) e⟩

/-- enumerate(a list that stands) -/
theorem evw_enum {M : Md} {σ : L2.St} {H : Hp} {i : Nat} {r : Addr} {ds : List PyData} (e : σ[i]? = some (some (.ref r))) (h : LstAt M H r ds) : EvW (fun H' H'' => (∀ o, H' r = some o → H'' r = some o) ∧ Kp M H' H'') (iEnum M.K (tCons (tVar i) tNil)) σ H ds.length fun i x H' => ∃ d v T, ds[i]? = some d ∧ x = .ref T ∧ SqT M.K H' T [.int (i : Nat), v] ∧ Dt M H' v d := fun R q => by
  obtain ⟨xs, hs, hd⟩ := h
  refine ⟨_, e, r, xs, rfl, SqL.of hs, q (Ite M.K r) H (fun H' => H' r = some (.lst xs) ∧ DtA M H' xs ds) (Same.refl H) ⟨hs, hd⟩ (fun H' H'' k z => ⟨k.1 _ z.1, DtA.kp k.2 z.2⟩) (fun i H' z hi => ?_) (fun H' z => ⟨xs, SqL.of z.1, by rw [hd.len]; exact Nat.le_refl _⟩) fun i H' y H'' z hi yl => ?_⟩
  · have hx : i < xs.length := by rw [hd.len]; exact hi
    exact ⟨xs, xs[i], SqL.of z.1, List.getElem?_eq_getElem hx⟩
  · obtain ⟨T, x, rfl, hT, rfl, ex⟩ := yl
    obtain ⟨d, h1, h2⟩ := z.2.get' (ex xs (SqL.of z.1))
    have sn : Same H' (upd H' T (.tup [.int (i : Nat), x])) := same_new hT
    exact ⟨sn, d, x, T, h1, rfl, .inl (.inl upd_same), h2.kp (Kp.of sn)⟩
/-- list * 2 -/
theorem ev_rep2 {M : Md} {σ : L2.St} {H : Hp} {ta tb : TE} {d : PyData} (ha : Ev ta σ H (PL M [d])) (hb : ∀ H1, Same H H1 → Ev tb σ H1 (PI 2)) : Ev (tOp rRep ta tb) σ H (PL M [d, d]) :=
  ev_op ha (fun _ H1 s1 _ => hb H1 s1) fun x y H1 H2 s1 s2 p1 p2 Q q => by
    obtain ⟨a, xs, rfl, hs, hd⟩ := p1
    obtain rfl : y = .int 2 := p2
    cases hd with
    | @cons v0 _ _ _ d1 hn =>
      cases hn
      refine ⟨a, 2, _, rfl, rfl, s2 _ _ hs, by decide, by decide, by show 1 * 2 ≤ _; exact Nat.le_trans (by decide) (show 1000 ≤ sizeLine by decide), fun p hp => ?_⟩
      have sn : Same H2 (upd H2 p (.lst (List.replicate (2 : Int).toNat [v0]).flatten)) := same_new hp
      exact q _ _ sn ⟨p, _, rfl, upd_same, .cons (d1.kp (Kp.of (s2.trans sn))) (.cons (d1.kp (Kp.of (s2.trans sn))) .nil)⟩
section
variable {M : Md} {σ : L2.St} {H : Hp} {ta tb tc td te : TE} {a l p b : Addr} {D : RecD} {R : RingD} {z : Str} {is : List Ins}
theorem ev_state (h : Ev te σ H (PC M a l D)) (ok : D.Ok) (hl : D.done.length ≤ 100) : Ev (tCall (sp_law_state M) [] E0 (tCons te tNil)) σ H (PV (.str (PyData.list (rowD D.R.n D.z D.ins D.cost D.run (ringText D.R))).shown)) := fun Q q =>
  h _ fun x H1 s1 ⟨e, hr⟩ => by
    subst e
    exact ⟨a, l, D, rfl, hr, ok, hl, (show Pr _ H Q from q).s s1⟩
theorem ev_due (ha : Ev ta σ H (PL M (landD R))) (hb : ∀ H1, Same H H1 → Ev tb σ H1 (PR M R)) (hc : ∀ H1, Same H H1 → Ev tc σ H1 (PV (.str z))) (hd : ∀ H1, Same H H1 → Ev td σ H1 (PL M (is.map insD))) (ok : R.Ok) (hz : Letters R.n z) (hi : ∀ i ∈ is, 0 ≤ i.1 ∧ i.1 < (R.n : Int)) (hl : is.length ≤ 100) :
    Ev (tCall (sp_law_due M) [] E0 (tCons ta (tCons tb (tCons tc (tCons td tNil))))) σ H (PV (.str (PyData.list (rowD R.n (zS R.n z is) is (costOf R is) false (ringText R))).shown)) := fun Q q =>
  ha _ fun x H1 s1 h1 => hb H1 s1 _ fun y H2 s2 h2 => hc H2 (s1.trans s2) _ fun w H3 s3 h3 => hd H3 ((s1.trans s2).trans s3) _ fun u H4 s4 h4 => by
    obtain ⟨p, xs, rfl, g1, g2⟩ := h1
    obtain rfl : w = .str z := h3
    obtain ⟨b, ys, rfl, f1, f2⟩ := h4
    have s24 := (s2.trans s3).trans s4
    exact ⟨p, b, y, R, z, is, rfl, ⟨xs, s24 _ _ g1, DtA.kp (Kp.of s24) g2⟩, h2.kp (Kp.of (s3.trans s4)), ok, hz, ⟨ys, f1, f2⟩, hi, hl, (show Pr _ H Q from q).s (s1.trans s24)⟩
end
theorem none_to {a x : Addr} {H H' : Hp} (t : To a H H') (hx : x ≠ a) (h : H' x = none) : H x = none := by
  cases e : H x with
  | none => rfl
  | some o =>
    have := t x o hx e
    rw [h] at this
    cases this
theorem a_par3 {σ : L2.St} {H : Hp} {i j l : Nat} {ta : TA} {D : Ends} (h : ta σ H fun vs H1 => ∃ u v w, vs = [u, v, w] ∧ D.nx (((σ.set i (some u)).set j (some v)).set l (some w)) H1) : tPar3 i j l ta D σ H := h
theorem a_nil {σ : L2.St} {H : Hp} {Q : List V → Hp → Prop} (h : Q [] H) : tNil σ H Q := h
theorem a_methK {σ : L2.St} {H : Hp} {C : Addr} {m : Str} {n : Nat} {sp : Sp} {gV : List V → List V → List V} {ta : TE} {tk : TA} {Q : VK} (h : ta σ H fun x H1 => ∃ a dx fs, x = .ref a ∧ H1 a = some (.ins C dx fs) ∧ fs.lookup m = none ∧ tk σ H1 fun zs H2 => zs.length = n ∧ sp (gV [x] zs) H2 Q E0) : tMethK C m n sp gV ta tk σ H Q := h
theorem a_meth {σ : L2.St} {H : Hp} {C : Addr} {m : Str} {sp : Sp} {E : XK} {ta : TE} {t : TA} {Q : VK} (h : ta σ H fun x H1 => ∃ a dx fs, x = .ref a ∧ H1 a = some (.ins C dx fs) ∧ fs.lookup m = none ∧ t σ H1 fun vs H2 => sp (x :: (vs ++ [])) H2 Q E) : tMeth C m sp [] E ta t σ H Q := h
theorem toS0 : (toString (0 : Int) : String) = "0" := by decide +kernel

/-! ### one round -/
def sp_law_right (M : Md) : Sp := fun vs H Q _ => ∃ a : Addr, vs = [.ref a] ∧ Src H a ∧ ∀ v H', To a H H' → v = .bl true → Q v H'
abbrev N_law_right : List Str := ["_law_source_here", "_law_land_here", "_law_circle_here", "_law_word", "_law_done", "_law_recorder", "_law_orders_here", "_law_named", "_law_turn", "_law_order", "_law_told"]
def t_law_right (M : Md) : TS := (tSeq (tAsg (tCall (sp_law_land M) [] E0 (tCons (tVar 0) (tCons (tC (.int 2)) (tCons (tC (.int 12)) tNil)))) (gName 1))
  (tSeq (tPar3 2 3 4 (tCons (tCall (sp_law_circle M) [] E0 (tCons (tVar 0) (tCons (tVar 1) tNil))) (tCons (tCall (sp_law_filled M) [] E0 (tCons (tVar 0) (tCons (tOp (rIxL M.K) (tVar 1) (tC (.int 0))) tNil))) (tCons (tLst tNil) tNil))))
  (tSeq (tPar 5 6 (tCons (tMake M.recd (sp_Recorder_init M) [] E0 (tCons (tVar 2) (tCons (tVar 3) tNil))) (tCons (tCall (sp_law_some M) [] E0 (tCons (tVar 0) (tCons (tCall (sp_law_orders M) [] E0 (tCons (tVar 1) tNil)) (tCons (tC (.int 30)) tNil)))) tNil)))
  (tSeq (tAsg (tMakeK M.recd 0 2 (sp_Recorder_init M) (mk_Recorder_0_content_ring_g M) E0 tNil (tCons (tVar 3) (tCons (tVar 2) tNil))) (gName 7))
  (tSeq (tIfS (tTest (tOp (rNeD M.K) (tLst (tCons (tCall (sp_law_state M) [] E0 (tCons (tVar 5) tNil)) (tCons (tCall (sp_law_state M) [] E0 (tCons (tVar 7) tNil)) tNil))) (tOp rRep (tLst (tCons (tCall (sp_law_due M) [] E0 (tCons (tVar 1) (tCons (tVar 2) (tCons (tVar 3) (tCons (tLst tNil) tNil))))) tNil)) (tC (.int 2))))) (tRet (tC (.bl false))) tNext)
  (tSeq (tFor (iEnum M.K (tCons (tVar 6) tNil)) (gTup M.K 2 (gCons (gName 8) (gCons (gName 9) gNil))) (tSeq (tAsg (tIf (tTest (tOp rEq (tOp rModI (tVar 8) (tC (.int 2))) (tC (.int 0)))) (tMeth M.recd "write" (sp_Recorder_write M) [] E0 (tVar 5) (tCons (tVar 9) tNil)) (tMethK M.recd "write" 1 (sp_Recorder_write M) appG (tVar 5) (tCons (tVar 9) tNil))) (gName 10))
  (tSeq (tDrop (tBM M.K "list" rAppend (tVar 4) (tCons (tVar 9) tNil)))
  (tIfS (tOr (tTest (tOp rNotNone (tVar 10) (tC .non))) (tTest (tOp rNe (tCall (sp_law_state M) [] E0 (tCons (tVar 5) tNil)) (tCall (sp_law_due M) [] E0 (tCons (tVar 1) (tCons (tVar 2) (tCons (tVar 3) (tCons (tVar 4) tNil)))))))) (tRet (tC (.bl false))) tNext))))
  (tRet (tAndV (tOp rEq (tCB rReprI (tCons (tFld M.K (tVar 5) "runs") tNil)) (tC (.str "0"))) (tCall (sp_law_equal_right M) [] E0 (tCons (tVar 1) (tCons (tVar 2) (tCons (tVar 3) (tCons (tVar 5) tNil)))))))))))))
/-- the recorder behind a part of the row -/
structure Rst (M : Md) (H : Hp) (b l : Addr) (R : RingD) (z : Str) (is : List Ins) (D : RecD) : Prop where
  at_ : IsRec M H b l D
  ring : D.R = R
  ins : D.ins = is
  let_ : D.z = zS R.n z is
  run : D.run = false
  runs : D.runs = 0
  ok : D.Ok
theorem Rst.len {M : Md} {H : Hp} {b l : Addr} {R : RingD} {z : Str} {is : List Ins} {D : RecD} (h : Rst M H b l R z is D) : D.done.length = is.length := by
  rw [← h.ins]
  unfold RecD.ins
  rw [List.length_map]
theorem Rst.s {M : Md} {H H' : Hp} {b l : Addr} {R : RingD} {z : Str} {is : List Ins} {D : RecD} (h : Rst M H b l R z is D) (s : Same H H') : Rst M H' b l R z is D := ⟨h.at_.s s, h.ring, h.ins, h.let_, h.run, h.runs, h.ok⟩
/-- the text that it shows is the due one -/
theorem Rst.row {M : Md} {H : Hp} {b l : Addr} {R : RingD} {z : Str} {is : List Ins} {D : RecD} (h : Rst M H b l R z is D) : rowD D.R.n D.z D.ins D.cost D.run (ringText D.R) = rowD R.n (zS R.n z is) is (costOf R is) false (ringText R) := by
  have e : D.cost = costOf R is := by
    show costOf D.R D.ins = _
    rw [h.ring, h.ins]
  rw [e, h.ring, h.ins, h.let_, h.run]
theorem Rst.wrote {M : Md} {H H' : Hp} {b l : Addr} {R : RingD} {z : Str} {is : List Ins} {D : RecD} (h : Rst M H b l R z is D) (hz : Letters R.n z) {i : Ins} (hi : 0 ≤ i.1 ∧ i.1 < (R.n : Int)) (hr : IsRec M H' b l (D.wrote i)) : Rst M H' b l R z (is ++ [i]) (D.wrote i) := by
  have hR := h.ring
  have ok := h.ok
  have hins : ∀ j ∈ is, 0 ≤ j.1 ∧ j.1 < (R.n : Int) := fun j hj => by
    rw [← h.ins] at hj
    rw [← hR]
    exact ins_bound ok j hj
  have n2 : 2 ≤ R.n := by
    rw [← hR]
    exact ok.R.n2
  have ez : (D.wrote i).z = zS R.n z (is ++ [i]) := by
    show gatS D.z (stepL 0 D.R.n i (upTo D.R.n)) = _
    rw [h.let_, hR]
    exact zS_snoc n2 hz hins i
  refine ⟨hr, hR, ?_, ez, h.run, h.runs, ⟨ok.R, ?_, fun p hp => ?_⟩⟩
  · show (D.done ++ [(i, D.z)]).map (·.1) = is ++ [i]
    rw [List.map_append, ← h.ins]
    rfl
  · rw [ez]
    show Letters D.R.n _
    rw [hR]
    refine zS_ok n2 hz fun j hj => ?_
    rcases List.mem_append.mp hj with hj | hj
    · exact hins j hj
    · rw [List.mem_singleton.mp hj]
      exact hi
  · rcases List.mem_append.mp (show p ∈ D.done ++ [(i, D.z)] from hp) with hp | hp
    · exact ok.d p hp
    · rw [List.mem_singleton.mp hp]
      show 0 ≤ i.1 ∧ i.1 < (D.R.n : Int)
      rw [hR]
      exact hi
theorem lst_inj {M : Md} {H : Hp} {p q : Addr} {ds es : List PyData} (h : LstAt M H p ds) (g : LstAt M H q es) (hl : ds.length ≠ es.length) : p ≠ q := fun e => by
  obtain ⟨xs, h1, h2⟩ := h
  obtain ⟨ys, g1, g2⟩ := g
  rw [e, g1] at h1
  cases h1
  have a1 := h2.len
  have a2 := g2.len
  omega
theorem rd_law_right {M : Md} (C : CCls M) (CR : RCls M) (I : ICls M.K M.ring) (J : ICls M.K M.recd) (T : Two M) {vs : List V} {H : Hp} {Q : VK} {E : XK} (h : sp_law_right M vs H Q E) : t_law_right M { nx := fun _ H' => Q .non H', rt := Q } (start N_law_right vs) H := by
  obtain ⟨a, rfl, hs, q⟩ := h
  -- the ring's numbers
  have e1 : EvT a (tCall (sp_law_land M) [] E0 (tCons (tVar 0) (tCons (tC (.int 2)) (tCons (tC (.int 12)) tNil)))) (start N_law_right [.ref a]) H (fun v H' => ∃ p R, v = .ref p ∧ p ≠ a ∧ R.Ok ∧ LstAt M H' p (landD R)) := fun Q' q' => ⟨_, rfl, a, rfl, hs, q'⟩
  refine q_setT e1 fun v H1 d1 ⟨p, R, e, hpa, ok, hp1⟩ => ?_
  subst e
  have n2 := ok.n2
  have n12 := ok.n12
  -- the ring, the content, an empty row
  have e2 : EvT a (tCall (sp_law_circle M) [] E0 (tCons (tVar 0) (tCons (tVar 1) tNil))) ((start N_law_right [.ref a]).set 1 (some (.ref p))) H1 (PR M R) := fun Q' q' => ⟨_, rfl, _, rfl, a, p, R, rfl, d1.sr, hpa, hp1, ok, q'⟩
  refine q_seq (a_par3 (a_cons (e2 _ fun rv H2 d2 hr2 => ?_)))
  have hp2 := hp1.dr d1.sr hpa d2
  have e3 : EvT a (tCall (sp_law_filled M) [] E0 (tCons (tVar 0) (tCons (tOp (rIxL M.K) (tVar 1) (tC (.int 0))) tNil))) ((start N_law_right [.ref a]).set 1 (some (.ref p))) H2 (fun v _ => ∃ z, v = .str z ∧ Letters R.n z) := fun Q' q' => by
    have en : Ev (tOp (rIxL M.K) (tVar 1) (tC (.int 0))) ((start N_law_right [.ref a]).set 1 (some (.ref p))) H2 (PI (R.n : Int)) := Ev.iD (ev_ixL (d := .int R.n) (ev_lstAt rfl hp2) (fun _ _ => ev_c rfl) (at_nat (by decide) rfl))
    refine ⟨_, rfl, en _ fun w H3 s3 ew => ⟨a, R.n, by rw [show w = V.int (R.n : Nat) from ew]; rfl, d2.sr.s s3, n2, n12, fun v H' d h => q' v H' ((Dr.of d2.sr s3).trans d) h⟩⟩
  refine a_cons (e3 _ fun zv H3 d3 ⟨z, e, hz⟩ => ?_)
  subst e
  refine ⟨Nat.zero_le _, fun q0 hq0 => ⟨_, _, _, rfl, nx_go ?_⟩⟩
  have sq : Same H3 (upd H3 q0 (.lst [])) := same_new hq0
  have d4 : Dr a H (upd H3 q0 (.lst [])) := ((d1.trans d2).trans d3).then sq
  have hq4 : LstAt M (upd H3 q0 (.lst [])) q0 [] := ⟨[], upd_same, .nil⟩
  have hp4 : LstAt M (upd H3 q0 (.lst [])) p (landD R) := (hp2.dr d2.sr hpa d3).s sq
  have hr4 : IsRing M (upd H3 q0 (.lst [])) rv R := (hr2.kp (d2.sr.kp d3)).kp (Kp.of sq)
  have hqa : q0 ≠ a := d3.sr.ne hq0
  have nq : H q0 = none := by
    cases e : H q0 with
    | none => rfl
    | some o =>
      have := ((d1.trans d2).trans d3).to q0 o hqa e
      rw [hq0] at this
      cases this
  generalize upd H3 q0 (.lst []) = H4 at d4 hq4 hp4 hr4 ⊢
  show tSeq _ _ _ [some (.ref a), some (.ref p), some rv, some (.str z), some (.ref q0), none, none, none, none, none, none] H4
  -- the recorder, the drawn instructions
  have e5 : Ev (tMake M.recd (sp_Recorder_init M) [] E0 (tCons (tVar 2) (tCons (tVar 3) tNil))) [some (.ref a), some (.ref p), some rv, some (.str z), some (.ref q0), none, none, none, none, none, none] H4 (PNew M H4 R z) := ev_mkRec (ev_var rfl hr4) (fun H5 s5 => ev_slot rfl) ok hz
  refine q_seq (a_par (a_cons (e5 _ fun v5 H5 s5 ⟨b, l, e, hb4, hl4, hc5⟩ => ?_)))
  subst e
  have d5 := d4.then s5
  have e6 : EvT a (tCall (sp_law_some M) [] E0 (tCons (tVar 0) (tCons (tCall (sp_law_orders M) [] E0 (tCons (tVar 1) tNil)) (tCons (tC (.int 30)) tNil)))) [some (.ref a), some (.ref p), some rv, some (.str z), some (.ref q0), none, none, none, none, none, none] H5 (fun v H' => ∃ js : List Ins, (∀ j ∈ js, Good R j) ∧ js.length ≤ 30 ∧ PLN M a (js.map insD) v H') := fun Q' q' => by
    refine ⟨_, rfl, _, rfl, p, R, rfl, hp4.s s5, ok, fun v H6 w is s6 e hw hw6 hg hlen => ?_⟩
    subst e
    exact ⟨a, w, is, rfl, d5.sr.s s6, d5.sr.ne hw, hw6, hlen, fun v H' d ⟨js, h1, h2, h3⟩ => q' v H' ((Dr.of d5.sr s6).trans d) ⟨js, fun j hj => hg j (h1 j hj), h2, h3⟩⟩
  refine a_cons (e6 _ fun v6 H6 d6 ⟨js, hg, hlen, r, e, hra, hr6⟩ => ⟨_, _, rfl, nx_go ?_⟩)
  subst e
  have hsr4 := d4.sr
  have hba : b ≠ a := hsr4.ne hb4
  have hla : l ≠ a := hsr4.ne hl4
  have k56 := d5.sr.kp (M := M) d6
  have hc6 : IsRec M H6 b l ⟨R, z, [], false, 0⟩ := hc5.kp k56 (fun o e => d6.to b o hba e) (fun o e => d6.to l o hla e)
  have hq6 : LstAt M H6 q0 [] := (hq4.s s5).dr d5.sr hqa d6
  have hp6 : LstAt M H6 p (landD R) := (hp4.s s5).dr d5.sr hpa d6
  have hv6 : IsRing M H6 rv R := (hr4.kp (Kp.of s5)).kp k56
  have d6' := d5.trans d6
  show tSeq _ _ _ [some (.ref a), some (.ref p), some rv, some (.str z), some (.ref q0), some (.ref b), some (.ref r), none, none, none, none] H6
  -- the recorder by names
  refine q_set (P := PNew M H6 R z) (ev_mkRecK (ev_slot rfl) (fun H7 s7 => ev_var rfl (hv6.kp (Kp.of s7))) ok hz) fun v7 H7 s7 ⟨c, m, e, _, _, hn7⟩ => ?_
  subst e
  have okD0 : (⟨R, z, [], false, 0⟩ : RecD).Ok := ⟨ok, hz, fun _ h => nomatch h⟩
  have rst0 : ∀ {H' : Hp} {b l : Addr}, IsRec M H' b l ⟨R, z, [], false, 0⟩ → Rst M H' b l R z [] ⟨R, z, [], false, 0⟩ := fun h => ⟨h, rfl, rfl, (zS_nil R.n z).symm, rfl, rfl, okD0⟩
  have hc7 := hc6.s s7
  have d7 := d6'.then s7
  -- the beginning is right
  refine q_no (eb_test (Ev.toB (ev_neD (M := M) (d := .list [.str (PyData.list (rowD R.n (zS R.n z []) [] (costOf R []) false (ringText R))).shown, .str (PyData.list (rowD R.n (zS R.n z []) [] (costOf R []) false (ringText R))).shown]) (e := .list [.str (PyData.list (rowD R.n (zS R.n z []) [] (costOf R []) false (ringText R))).shown, .str (PyData.list (rowD R.n (zS R.n z []) [] (costOf R []) false (ringText R))).shown]) ?_ (fun H8 s8 => ?_) ?_ ?_) ?_)) fun H8 s8 => ?_
  · have es : ∀ {i : Nat} {H' : Hp} {b l : Addr} {σ : L2.St}, σ[i]? = some (some (.ref b)) → IsRec M H' b l ⟨R, z, [], false, 0⟩ → Ev (tCall (sp_law_state M) [] E0 (tCons (tVar i) tNil)) σ H' (PV (.str (PyData.list (rowD R.n (zS R.n z []) [] (costOf R []) false (ringText R))).shown)) := fun e h => by
      rw [← (rst0 h).row]
      exact ev_state (ev_var e ⟨rfl, h⟩) okD0 (Nat.zero_le _)
    exact (ev_lst (ea1 (.dS (es rfl hc7)) fun H8 s8 => ea1 (.dS (es rfl (hn7.s s8))) fun _ _ => ea0) (by show 2 ≤ 1000000; omega)).qL
  · exact (ev_rep2 (ev_lst (ea1 (.dS (ev_due (is := []) (ev_lstAt rfl (hp6.s (s7.trans s8))) (fun H9 s9 => ev_var rfl (hv6.kp (Kp.of ((s7.trans s8).trans s9)))) (fun _ _ => ev_slot rfl) (fun _ _ => ev_lst ea0 (by decide)) ok hz (fun _ h => nomatch h) (Nat.zero_le _))) fun _ _ => ea0) (by show 1 ≤ 1000000; omega)) fun _ _ => ev_c rfl).qL
  · exact (two_flt (row_tx ok (zS_ok n2 hz fun j h => absurd h List.not_mem_nil) fun j h => absurd h List.not_mem_nil)).shaped
  · exact (two_flt (row_tx ok (zS_ok n2 hz fun j h => absurd h List.not_mem_nil) fun j h => absurd h List.not_mem_nil)).shaped
  · rw [PyData.eqv, PyData.eqvAll, PyData.eqvAll, PyData.eqvAll, PyData.eqv]
    simp
  -- the turns
  have s78 := s7.trans s8
  have hR8 : LstAt M H8 r (js.map insD) := hr6.s s78
  have hq8 : LstAt M H8 q0 [] := hq6.s s78
  have hp8 : LstAt M H8 p (landD R) := hp6.s s78
  have hv8 : IsRing M H8 rv R := hv6.kp (Kp.of s78)
  have hc8 := hc6.s s78
  have hl8 : LstAt M H8 l [] := by
    obtain ⟨dx, rv', g1, g2, g3⟩ := hc8
    exact g3
  have hb8 : ∃ dx fs, H8 b = some (.ins M.recd dx fs) := by
    obtain ⟨dx, rv', g1, g2⟩ := hc8
    exact ⟨dx, _, g1⟩
  have insNot : ∀ {x : Addr} {ds : List PyData}, LstAt M H8 x ds → x ≠ b := fun {x ds} h e => by
    obtain ⟨dx, fs, g1⟩ := hb8
    obtain ⟨xs, h1, _⟩ := h
    rw [e, g1] at h1
    cases h1
  have pb := insNot hp8
  have rb := insNot hR8
  have qb := insNot hq8
  have lb := insNot hl8
  have plq : p ≠ q0 := lst_inj hp8 hq8 (by simp [landD])
  have pll : p ≠ l := lst_inj hp8 hl8 (by simp [landD])
  have ql : q0 ≠ l := fun e => by
    have : H4 l = none := hl4
    obtain ⟨xs, g, _⟩ := hq4
    rw [← e, g] at this
    cases this
  have good : ∀ j ∈ js, 0 ≤ j.1 ∧ j.1 < (R.n : Int) := fun j hj => ⟨(hg j hj).1, (hg j hj).2.1⟩
  refine q_seq ?_
  have hE := evw_enum (M := M) (σ := [some (.ref a), some (.ref p), some rv, some (.str z), some (.ref q0), some (.ref b), some (.ref r), some (.ref c), none, none, none]) (H := H8) (i := 6) (r := r) rfl hR8
  rw [List.length_map] at hE
  refine s_for hE (fun j σ' Ha Hb => Same H8 Ha ∧ K3 b l q0 Ha Hb ∧ Kp M Ha Hb ∧ (∀ o, Ha r = some o → Hb r = some o) ∧ ∃ (c8 c9 c10 : Option V) (D : RecD), σ' = [some (.ref a), some (.ref p), some rv, some (.str z), some (.ref q0), some (.ref b), some (.ref r), some (.ref c), c8, c9, c10] ∧ Rst M Hb b l R z (js.take j) D ∧ LstAt M Hb q0 ((js.take j).map insD)) ?_ (fun _ _ _ _ w => ⟨w.2.2.2.1, w.2.2.1⟩) ?_ ?_
  · exact fun Ha s => ⟨s, fun x o _ _ _ e => e, Kp.refl, fun o e => e, none, none, none, _, rfl, rst0 (hc8.s s), hq8.s s⟩
  · intro j x σ' Ha Hb Hc hj sa w sb y
    obtain ⟨_, k3, kp, kr, c8, c9, c10, D, e, hD, hq⟩ := w
    subst e
    obtain ⟨d, v, T', hd, rfl, hT, hv⟩ := y
    rw [List.getElem?_map] at hd
    obtain ⟨i, hij, rfl⟩ := Option.map_eq_some_iff.mp hd
    have gi := hg i (List.mem_of_getElem? hij)
    have tk : js.take (j + 1) = js.take j ++ [i] := by
      rw [List.take_succ, hij]
      rfl
    have ljs : (js.take j).length = j := by
      rw [List.length_take]
      omega
    have rl : r ≠ l := lst_inj hR8 hl8 (by rw [List.length_map]; show js.length ≠ 0; omega)
    have rq : r ≠ q0 := lst_inj hR8 hq8 (by rw [List.length_map]; show js.length ≠ 0; omega)
    have hDc := hD.s sb
    have hqc := hq.s sb
    have hR := hDc.ring
    refine ⟨T', _, rfl, hT, rfl, _, _, rfl, _, _, rfl, rfl, ?_⟩
    -- the write: by place or by name
    have hw : ∀ (Hd : Hp) (Q' : VK), Same Hc Hd → (∀ H', (∀ x o, x ≠ b → x ≠ l → Hc x = some o → H' x = some o) → IsRec M H' b l (D.wrote i) → Q' .non H') → sp_Recorder_write M [.ref b, v] Hd Q' E0 := fun Hd Q' sd k => by
      refine ⟨b, l, D, v, i, rfl, hDc.at_.s sd, hDc.ok, ?_, hv.kp (Kp.of sd), gi.1, by rw [hR]; exact gi.2.1, by rw [hR]; exact gi.2.2, fun H' kk hr => k H' (fun x o hx hl e => kk x o hx hl (sd _ _ e)) hr⟩
      rw [hDc.len, ljs]
      omega
    have no5 : ∀ m ∈ [("held" : Str), "recorded", "sources", "spent", "write"], ∀ rv z l run runs, (recFs rv z l run runs).lookup m = none := fun m hm rv z l run runs => by
      have h := m_names m hm
      exact recFs_no _ _ _ _ _ h.1 h.2.1 h.2.2.1 h.2.2.2.1 h.2.2.2.2
    have nw := no5 ("write" : Str) (by decide +kernel)
    -- behind the write
    have after : ∀ (DD : Ends), (∀ (H3 : Hp) (c8 c9 c10 : Option V) (D : RecD), K3 b l q0 Ha H3 → Kp M Ha H3 → (∀ o, Ha r = some o → H3 r = some o) → Rst M H3 b l R z (js.take (j + 1)) D → LstAt M H3 q0 ((js.take (j + 1)).map insD) → DD.nx [some (.ref a), some (.ref p), some rv, some (.str z), some (.ref q0), some (.ref b), some (.ref r), some (.ref c), c8, c9, c10] H3) →
        ∀ H', (∀ x o, x ≠ b → x ≠ l → Hc x = some o → H' x = some o) → IsRec M H' b l (D.wrote i) →
        tSeq (tDrop (tBM M.K "list" rAppend (tVar 4) (tCons (tVar 9) tNil))) (tIfS (tOr (tTest (tOp rNotNone (tVar 10) (tC .non))) (tTest (tOp rNe (tCall (sp_law_state M) [] E0 (tCons (tVar 5) tNil)) (tCall (sp_law_due M) [] E0 (tCons (tVar 1) (tCons (tVar 2) (tCons (tVar 3) (tCons (tVar 4) tNil)))))))) (tRet (tC (.bl false))) tNext) DD [some (.ref a), some (.ref p), some rv, some (.str z), some (.ref q0), some (.ref b), some (.ref r), some (.ref c), some (.int (j : Nat)), some v, some .non] H' := fun DD kk2 H' kk hr => by
        obtain ⟨dx, rv', f1, f2, xs', f3, f4⟩ := id hDc.at_
        have kpc : Kp M Hc H' := kp_two T.ne f1 f3 kk
        have hD' : Rst M H' b l R z (js.take (j + 1)) (D.wrote i) := by
          rw [tk]
          exact hDc.wrote hz (good i (List.mem_of_getElem? hij)) hr
        obtain ⟨ys, g1, g2⟩ := hqc
        have q1 : H' q0 = some (.lst ys) := kk _ _ qb ql g1
        have hv' : Dt M H' v (insD i) := hv.kp kpc
        refine q_seq (s_app (P := PD M (insD i)) rfl q1 (by rw [g2.len, List.length_map, ljs]; omega) (ev_var rfl hv') fun v9 H9 s9 h9 => nx_go ?_)
        have kA : Kp M H9 (upd H9 q0 (.lst (ys ++ [v9]))) := Kp.lst (s9 _ _ q1)
        have hDa : Rst M (upd H9 q0 (.lst (ys ++ [v9]))) b l R z (js.take (j + 1)) (D.wrote i) := ⟨(hD'.at_.s s9).kp kA (fun o e => by rw [upd_ne (Ne.symm qb)]; exact e) (fun o e => by rw [upd_ne (Ne.symm ql)]; exact e), hD'.ring, hD'.ins, hD'.let_, hD'.run, hD'.runs, hD'.ok⟩
        have hqa' : LstAt M (upd H9 q0 (.lst (ys ++ [v9]))) q0 ((js.take (j + 1)).map insD) := by
          refine ⟨_, upd_same, ?_⟩
          rw [tk, List.map_append]
          exact (DtA.kp kA (DtA.kp (Kp.of s9) (DtA.kp kpc g2))).app (.cons (h9.kp kA) .nil)
        have stand : ∀ x o, x ≠ b → x ≠ l → x ≠ q0 → Ha x = some o → (upd H9 q0 (.lst (ys ++ [v9]))) x = some o := fun x o h1 h2 h3 e => by
          rw [upd_ne h3]
          exact s9 _ _ (kk x o h1 h2 (sb _ _ (k3 x o h1 h2 h3 e)))
        have kall : Kp M Ha (upd H9 q0 (.lst (ys ++ [v9]))) := (kp.trans (Kp.of sb)).trans (kpc.trans ((Kp.of s9).trans kA))
        have kr' : ∀ o, Ha r = some o → (upd H9 q0 (.lst (ys ++ [v9]))) r = some o := fun o e => stand r o rb rl rq e
        have hpa' : LstAt M (upd H9 q0 (.lst (ys ++ [v9]))) p (landD R) := (hp8.s sa).kp kall fun o e => stand p o pb pll plq e
        have hva : IsRing M (upd H9 q0 (.lst (ys ++ [v9]))) rv R := (hv8.kp (Kp.of sa)).kp kall
        generalize upd H9 q0 (.lst (ys ++ [v9])) = HA at hDa hqa' stand kall kr' hpa' hva ⊢
        have lj1 : (js.take (j + 1)).length ≤ 30 := by rw [List.length_take]; omega
        have g1' : ∀ k ∈ js.take (j + 1), 0 ≤ k.1 ∧ k.1 < (R.n : Int) := fun k hk => good k (List.mem_of_mem_take hk)
        refine s_no ((eb_or (b := false) (c := false) (eb_test (ev_isnt (ev_slot rfl) rfl)) fun _ H10 s10 => eb_test ?_).to rfl) fun H10 s10 => ?_
        · have es := ev_state (M := M) (σ := [some (.ref a), some (.ref p), some rv, some (.str z), some (.ref q0), some (.ref b), some (.ref r), some (.ref c), some (.int (j : Nat)), some v, some .non]) (H := H10) (te := tVar 5) (ev_var rfl ⟨rfl, hDa.at_.s s10⟩) hDa.ok (by rw [hDa.len]; omega)
          rw [hDa.row] at es
          refine Ev.toB (ev_ne es (fun H11 s11 => ev_due (ev_lstAt rfl (hpa'.s (s10.trans s11))) (fun H12 s12 => ev_var rfl (hva.kp (Kp.of ((s10.trans s11).trans s12)))) (fun _ _ => ev_slot rfl) (fun H12 s12 => ev_lstAt rfl (hqa'.s ((s10.trans s11).trans s12))) ok hz g1' (by omega)) rfl) (by simp)
        · exact kk2 H10 _ _ _ _ (fun x o h1 h2 h3 e => s10 _ _ (stand x o h1 h2 h3 e)) (kall.trans (Kp.of s10)) (fun o e => s10 _ _ (kr' o e)) (hDa.s s10) (hqa'.s s10)
    have et : EvB (tTest (tOp rEq (tOp rModI (tVar 8) (tC (.int 2))) (tC (.int 0)))) [some (.ref a), some (.ref p), some rv, some (.str z), some (.ref q0), some (.ref b), some (.ref r), some (.ref c), some (.int (j : Nat)), some v, c10] Hc (decide (V.int ((j : Int) % 2) = V.int 0)) :=
      eb_test (ev_eq (ev_i (g := fun i j => .int (i % j)) (ev_slot rfl) (fun _ _ => ev_c rfl) (by decide)) (fun _ _ => ev_c rfl) rfl)
    refine q_seq (et _ fun Hd sd => ?_)
    obtain ⟨dx, rv', f1, f2⟩ := id (hDc.at_.s sd)
    split
    · refine a_meth ⟨_, rfl, b, dx, _, rfl, f1, nw _ _ _ _ _, a_cons ⟨_, rfl, a_nil ?_⟩⟩
      refine hw Hd _ sd ?_
      intro H' kk hr
      refine nx_go ?_
      refine after _ ?_ H' kk hr
      exact fun H3 c8 c9 c10 D h1 h2 h3 h4 h5 => ⟨sa, h1, h2, h3, c8, c9, c10, D, rfl, h4, h5⟩
    · refine a_methK ⟨_, rfl, b, dx, _, rfl, f1, nw _ _ _ _ _, a_cons ⟨_, rfl, a_nil ⟨rfl, ?_⟩⟩⟩
      refine hw Hd _ sd ?_
      intro H' kk hr
      refine nx_go ?_
      refine after _ ?_ H' kk hr
      exact fun H3 c8 c9 c10 D h1 h2 h3 h4 h5 => ⟨sa, h1, h2, h3, c8, c9, c10, D, rfl, h4, h5⟩
  · rintro σ' Ha Hb sa ⟨_, k3, kp, kr, c8, c9, c10, D, rfl, hD, hq⟩
    rw [List.take_length] at hD hq
    have hpb : LstAt M Hb p (landD R) := (hp8.s sa).kp kp fun o e => k3 p o pb pll plq e
    have hvb : IsRing M Hb rv R := (hv8.kp (Kp.of sa)).kp kp
    have d8 := d7.then s8
    have nb : H b = none := none_to d4.to hba hb4
    have nl : H l = none := none_to d4.to hla hl4
    have toAll : To a H Hb := fun x o hx e => k3 x o (fun z => by rw [z, nb] at e; cases e) (fun z => by rw [z, nl] at e; cases e) (fun z => by rw [z, nq] at e; cases e) (sa _ _ (d8.to x o hx e))
    refine s_end (t := tRet (tAndV (tOp rEq (tCB rReprI (tCons (tFld M.K (tVar 5) "runs") tNil)) (tC (.str "0"))) (tCall (sp_law_equal_right M) [] E0 (tCons (tVar 1) (tCons (tVar 2) (tCons (tVar 3) (tCons (tVar 5) tNil))))))) rfl ?_
    refine s_ret (P := PB true) (Ev.toB (ev_andV (b := true) (c := true) (Ev.toB (ev_eq (x := .str "0") (y := .str "0") (fun Q' q' => ?_) (fun _ _ => ev_c rfl) rfl) (by simp)) fun _ H9 s9 => fun Q' q' => ?_) rfl) fun v H' s e => q v H' (fun x o hx eo => s _ _ (toAll x o hx eo)) e
    · have e5 : Ev (tFld M.K (tVar 5) "runs") [some (.ref a), some (.ref p), some rv, some (.str z), some (.ref q0), some (.ref b), some (.ref r), some (.ref c), c8, c9, c10] Hb (PI D.runs) := ev_rruns C (ev_var rfl ⟨rfl, hD.at_⟩)
      refine a_tc (a_cons (e5 _ fun v H9 s9 hv => ⟨0, by rw [show v = V.int D.runs from hv, hD.runs], by decide, q' _ _ s9 ?_⟩))
      rw [toS0]
    · exact ⟨_, rfl, _, rfl, _, rfl, _, rfl, p, b, l, rv, R, z, D, rfl, hpb.s s9, hvb.kp (Kp.of s9), ok, hz, hD.at_.s s9, hD.ring, hD.ok, by rw [hD.len]; omega, q'⟩
/-! ### the law -/
def sp_law (M : Md) : Sp := fun vs H Q _ => ∃ (s : Addr) (ns : List Int), vs = [.ref s] ∧ SqL M.K H s (ns.map V.int) ∧ Pr (PB true) H Q
abbrev N_law : List Str := ["_law_script", "_law_k"]
def t_law (M : Md) : TS := (tRet (tCB (rAll M.K) (tCons (tLc (iRng1 (tCons (tCB rMax2 (tCons (tC (.int 2)) (tCons (tCB rMin2 (tCons (tCB (rLenQ M.K) (tCons (tVar 0) tNil)) (tCons (tC (.int 5)) tNil))) tNil))) tNil)) (gName 1) tYes (tCall (sp_law_right M) [] E0 (tCons (tCall (sp_law_source M) [] E0 (tCons (tCall (sp_law_cell M) [] E0 (tCons (tVar 0) (tCons (tVar 1) tNil))) tNil)) tNil)) [1]) tNil)))
theorem rd_law {M : Md} {vs : List V} {H : Hp} {Q : VK} {E : XK} (h : sp_law M vs H Q E) : t_law M { nx := fun _ H' => Q .non H', rt := Q } (start N_law vs) H := by
  obtain ⟨s, ns, rfl, hs, q⟩ := h
  refine s_ret (P := PB true) ?_ q
  have el : ∀ {σ : L2.St} {H1 : Hp}, σ[0]? = some (some (.ref s)) → Same H H1 → Ev (tCB (rLenQ M.K) (tCons (tVar 0) tNil)) σ H1 (PI ns.length) := fun e s1 Q' q' => ⟨_, e, s, ns.map V.int, rfl, .inl (s1.seq hs), q' _ _ (Same.refl _) (by rw [List.length_map])⟩
  -- how many rounds
  have en : Ev (tCB rMax2 (tCons (tC (.int 2)) (tCons (tCB rMin2 (tCons (tCB (rLenQ M.K) (tCons (tVar 0) tNil)) (tCons (tC (.int 5)) tNil))) tNil))) (start N_law [.ref s]) H (fun v _ => ∃ n : Nat, v = .int (n : Nat) ∧ n ≤ 5) := fun Q' q' => by
    refine el rfl (Same.refl _) _ fun x H1 s1 ex => ⟨(ns.length : Nat), 5, by rw [show x = V.int (ns.length : Nat) from ex], 2, _, rfl, ?_⟩
    have hm : ∃ m : Nat, (if (5 : Int) < (ns.length : Nat) then (5 : Int) else (ns.length : Nat)) = (m : Int) ∧ m ≤ 5 := by
      split
      · exact ⟨5, rfl, Nat.le_refl _⟩
      · exact ⟨ns.length, rfl, by omega⟩
    obtain ⟨m, e, hm⟩ := hm
    rw [e]
    refine q' _ _ s1 ?_
    split
    · exact ⟨m, rfl, hm⟩
    · exact ⟨2, rfl, by decide⟩
  have key : ∀ (n : Nat) (H1 : Hp), n ≤ 5 → Same H H1 → Ev (tLc (iRng1 (tCons (tC (.int (n : Nat))) tNil)) (gName 1) tYes (tCall (sp_law_right M) [] E0 (tCons (tCall (sp_law_source M) [] E0 (tCons (tCall (sp_law_cell M) [] E0 (tCons (tVar 0) (tCons (tVar 1) tNil))) tNil)) tNil)) [1]) (start N_law [.ref s]) H1 (PL M (((List.range n).map fun _ => true).map PyData.bool)) := fun n H1 hn s1 => by
    rw [List.map_map]
    have hI := evi_range (M := M) (σ := start N_law [.ref s]) (H := H1) (ta := tC (.int (n : Nat))) (n := (n : Int)) (ev_c rfl)
    rw [Int.toNat_natCast] at hI
    refine ev_lc1 (n := n) (e := fun _ => PyData.bool true) hI.toL ?_ (fun x => wipe_set1 x) (by omega) (fun j y Ha Hb s h => h)
    rintro k y H2 hk s2 rfl
    refine Ev.dB fun Q1 q1 => ?_
    have e1 : Ev (tCall (sp_law_cell M) [] E0 (tCons (tVar 0) (tCons (tVar 1) tNil))) ((wipe (start N_law [.ref s]) [1]).set 1 (some (.int (k : Nat)))) H2 (IntP AnyI) := fun Q2 q2 => ⟨_, rfl, _, rfl, s, ns, k, rfl, (s1.trans s2).seq hs, by omega, q2⟩
    refine a_call (a_cons (a_call (a_cons (e1 _ fun x H3 s3 ⟨i, ex, _⟩ => a_nil ?_))))
    subst ex
    refine ⟨i, rfl, fun v H4 a s4 e ha hS => a_nil ?_⟩
    subst e
    exact ⟨a, rfl, hS, fun v H5 t5 e => q1 v H5 (fun b o eb => t5 b o (fun z => by rw [z, none_of s3 ha] at eb; cases eb) (s4 _ _ (s3 _ _ eb))) e⟩
  exact fun Q' q' => en _ fun x H1 s1 ⟨n, ex, hn⟩ => by
    subst ex
    have e := ev_all (M := M) (key n H1 hn s1)
    rw [all_true] at e
    exact e _ fun v H2 s2 p => q' v H2 (s1.trans s2) p
end Crx

set_option maxHeartbeats 4000000
/-! Crx10: methods' calls, keywords' bindings, the head's extra look. -/
namespace Crx
open PySem PySem.Spec PyProof.Rows L2

section
variable {X : Cx} {C : Addr} {m : Str} {k : Nat} {ps : List Str} {sp : Sp} {o e : Expr} {es : List Expr} {apos pos : Pos} {ta : TE} {t : TA} {pl : Sem Bool}
theorem pe_mcal (c : MCal X.prog X.w X.K X.mg X.base C m k ps sp) (hr : Room k X.A) (he : PE X o ta) (ha : PA X (e :: es) t)
    (hst : starEach (e :: es) X.env = (false, eval e X.env) :: starEach es X.env := by rfl) (hpl : (backTo pos (starEach es X.env)).any (·.1) = false := by rfl)
    (ht : eval (.Call (.Attribute o m apos) (e :: es) [] pos) X.env = (do
      let owner ← eval o X.env
      standAt apos.atName
      let (fn, first) ← holding [owner] (getMethod owner m pl)
      callWith pos fn first (backTo pos (starEach (e :: es) X.env)) (backToKw pos (keywordEach [] X.env))) := by rfl) : PE X (.Call (.Attribute o m apos) (e :: es) [] pos) (tMeth C m sp [] E0 ta t) := by
  obtain ⟨f, fd, F, hm, cl, hb⟩ := c.ex
  exact pe_meth (pl := pl) he cl hm F hr hb .nil pass0 ha hst hpl ht
theorem pe_mcal0 (c : MCal X.prog X.w X.K X.mg X.base C m k ps sp) (hr : Room k X.A) (he : PE X o ta)
    (ht : eval (.Call (.Attribute o m apos) [] [] pos) X.env = (do
      let owner ← eval o X.env
      standAt apos.atName
      let (fn, first) ← holding [owner] (getMethod owner m pl)
      callWith pos fn first (backTo pos (starEach [] X.env)) (backToKw pos (keywordEach [] X.env))) := by rfl) : PE X (.Call (.Attribute o m apos) [] [] pos) (tMeth C m sp [] E0 ta tNil) := by
  obtain ⟨f, fd, F, hm, cl, hb⟩ := c.ex
  exact pe_meth0 (pl := pl) he cl hm F hr hb .nil pass0 ht
end
theorem vals_getD : ∀ {xs : List V} {us : List Value}, Vals xs us → ∀ i : Nat, RelV (xs.getD i .non) (us.getD i .none)
  | _, _, .nil, i => by cases i <;> rfl
  | _, _, .cons r t, i => by
    cases i with
    | zero => exact r
    | succ i => exact vals_getD t i
/-- keywords of a def without defaults (keyword-only ones are all given) -/
theorem FunD.kb {K : PySem.W.Frag} {x qual : Str} {params : Arguments} {body : List Stmt} {scope : Scope} {kws : List (Str × V)} {f : Addr} {fd : FuncData} {ps : List Str} (F : FunD K x qual params body scope [] kws f fd) (n : Nat) (ks : List Str) (g : List Value → List Value → List Value) (gV : List V → List V → List V)
    (hrel : ∀ {vs zs : List V} {us ws : List Value}, Vals vs us → Vals zs ws → Vals (gV vs zs) (g us ws))
    (h : ∀ (kV doc pm : Value) (an : Option Addr) (cdv ct : Value) (us ws : List Value), us.length = n → ws.length = ks.length → bindArgs (PySem.W.fnOf x qual params body scope .none kV doc pm an cdv ct) ⟨us, ks.zip ws⟩ = pure (ps.zip (g us ws))) :
    KBn K fd ps n ks g gV := by
  obtain ⟨oc, od, dV, kV, doc, pm, an, cdv, ct, osl, rfl, lk, hcd, hD, hK⟩ := F.ex
  rcases hD with ⟨_, rfl⟩ | ⟨e, _⟩
  · exact ⟨fun s us ws _ l1 l2 => BindsTo.of_eq (h kV doc pm an cdv ct us ws l1 l2), fun r z => hrel r z⟩
  · exact absurd rfl e
/-! ### the head's facts and an extra look -/
open He in
def hookX (n : Nat) (fa : List Fa) (fn : List DefD) (ex : PySem.W.Frag → Bool) : PySem.W.Hook where
  α := Bool × AlD
  obs := fun s => (ex (frG s.heap.get? (asD s.heap.get? n)), obsDG n fa fn s.heap.get?)
  val := fun _ => (true, valD fn)
  says := fun _ h => ∃ K : PySem.W.Frag, K.In h ∧ ex K = true ∧ SaysD fa fn K
  of := fun _ _ e => ⟨_, frG_in, congrArg Prod.fst e, congrArg Prod.snd e⟩
  keeps := fun _ _ _ ⟨K, hK, c⟩ k => ⟨K, hK.keeps k, c⟩
open He in
def obX (n : Nat) (fa : List Fa) (fn : List DefD) (ex : PySem.W.Frag → Bool) (g : Addr → Option Obj) : Bool × AlD := (ex (frG g (asD g n)), obsDG n fa fn g)
open He in
theorem obX_eq {n : Nat} {fa : List Fa} {fn : List DefD} {ex : PySem.W.Frag → Bool} {g : Addr → Option Obj} {s : Shared} (h : ∀ a, g a = s.heap.get? a) : obX n fa fn ex g = (hookX n fa fn ex).obs s := by
  have e : g = s.heap.get? := funext h
  rw [e]
  rfl
open He in
/-- what isinstance, == ask of the class x -/
def iclsB (K : PySem.W.Frag) (x : Str) : Bool :=
  eqO (PySem.W.findIn K (.ref (ga K x)) "__class__") (some (some (.builtin "object.__class__"))) && (eqO (PySem.W.specialIn K (.builtin "object.__class__") "__get__") (some (some (.builtin "getset_descriptor.__get__"))) &&
  (decide (PySem.W.takesIn K (.builtin "object.__class__") = some true) && (decide (PySem.W.mroIn K (ga K x) (.type "object") = some true) && (decide (PySem.W.kitOne K (.ref (ga K x)) (.ref (ga K x)) = some true) &&
  ((["NoneType", "int", "str", "tuple"].all fun k => decide (PySem.W.kitOne K (.type k) (.ref (ga K x)) = some false)) && (["NoneType", "int", "str", "tuple"].all fun k => PySem.W.notFirst K (ga K x) (.type k)))))))
open He in
/-- the class x has the special def m -/
def dunB (K : PySem.W.Frag) (x m : Str) : Bool := (Fa.meth x m).ok K
open He in
def neB (K : PySem.W.Frag) (x : Str) : Bool := eqO (PySem.W.findIn K (.ref (ga K x)) "__ne__") (some (some (.builtin "object.__ne__")))
open He in
def nobB (K : PySem.W.Frag) (x : Str) : Bool := eqO (PySem.W.findIn K (.ref (ga K x)) "__bool__") (some none)
open He in
def twoB (K : PySem.W.Frag) (x y : Str) : Bool := decide (¬ ga K y = ga K x) && (decide (PySem.W.kitOne K (.ref (ga K x)) (.ref (ga K y)) = some false) && PySem.W.notFirst K (ga K y) (.ref (ga K x)))
end Crx

set_option maxHeartbeats 4000000
/-! Derivations of the defs that the law reaches; printed by mk.py. -/
namespace Crx
open PySem PySem.Spec PyProof.Rows L2 RZ
abbrev Row : PySem.W.OpenRow := PySem.W.OpenLaw.row PySem.Challenge.rw_copyring_k65_instructions_recorded
def top (i : Nat) : Stmt := PySem.Challenge.pw_copyring_k65_instructions_recorded.main.body.getD i (.Pass ⟨0, 0, 0, 0⟩)
/-- the built-in names stand free -/
structure Bl (mg : Str → Option Value) : Prop where
  abs : mg "abs" = none
  all : mg "all" = none
  any : mg "any" = none
  bool : mg "bool" = none
  divmod : mg "divmod" = none
  enumerate : mg "enumerate" = none
  int : mg "int" = none
  isinstance : mg "isinstance" = none
  len : mg "len" = none
  list : mg "list" = none
  max : mg "max" = none
  min : mg "min" = none
  range : mg "range" = none
  repr : mg "repr" = none
  str : mg "str" = none
  sum : mg "sum" = none
  tuple : mg "tuple" = none
  zip : mg "zip" = none
/-- the module's constants, its classes -/
structure Gl (M : Md) (mg : Str → Option Value) : Prop where
  gDIGITS : ∃ t, mg "DIGITS" = some (.str "0123456789" t)
  gLEFT : ∃ t, mg "LEFT" = some (.str "left" t)
  gLETTERS : ∃ t, mg "LETTERS" = some (.str "abcdefghijklmnopqrstuvwxyz" t)
  gMAX_DIGITS : ∃ t, mg "MAX_DIGITS" = some (.int 31 t)
  gMAX_PRICE : ∃ t, mg "MAX_PRICE" = some (.int 999 t)
  gMAX_RECORDS : ∃ t, mg "MAX_RECORDS" = some (.int 400 t)
  gMAX_SIZE : ∃ t, mg "MAX_SIZE" = some (.int 12 t)
  gMIN_SIZE : ∃ t, mg "MIN_SIZE" = some (.int 2 t)
  gRIGHT : ∃ t, mg "RIGHT" = some (.str "right" t)
  gRecorder : mg "Recorder" = some (.ref M.recd)
  gRing : mg "Ring" = some (.ref M.ring)
/-- what is known of the two classes -/
structure Wd (M : Md) : Prop where
  CR : RCls M
  C : CCls M
  I : ICls M.K M.ring
  J : ICls M.K M.recd
  T : Two M
  NE_Recorder : NeOk M.K M.recd
  NB_Recorder : NoBool M.K M.recd
theorem spm_Recorder_len {M : Md} (vs : List V) (H : Hp) (Q Q' : VK) (k : ∀ v H', Q v H' → Q' v H') (h : sp_Recorder_len M vs H Q E0) : sp_Recorder_len M vs H Q' E0 := by
  obtain ⟨a, l, D, e, hr, q⟩ := h
  exact ⟨a, l, D, e, hr, fun v H' s p => k _ _ (q v H' s p)⟩
end Crx

set_option maxHeartbeats 4000000
namespace Crx
open PySem PySem.Spec PyProof.Rows L2 RZ
section
variable {P : Program} {w : World} {mg : Str → Option Value} {base : Heap} {M : Md} {f : Addr} {fd : FuncData}
abbrev s_law_draw : Stmt := top 51
theorem sc_law_draw : FnScope N_law_draw ["_law_source_here", "_law_size"] (defScope s_law_draw) := ⟨rfl, rfl, rfl, by decide +kernel, rfl, by decide +kernel, by decide +kernel⟩
theorem ok_law_draw (F : FunD M.K "_law_draw" "_law_draw" (defArgs s_law_draw) (defBody s_law_draw) (defScope s_law_draw) [] [] f fd) (B : Bl mg) (G : Gl M mg) (W : Wd M) :
    FnOk P w M.K mg base CX0 1 f fd ["_law_source_here", "_law_size"] (sp_law_draw M) := by
  refine FunD.ok F sc_law_draw (fun vs H Q E h => by first | (obtain ⟨e, _⟩ := h; subst e; rfl) | (obtain ⟨_, e, _⟩ := h; subst e; rfl) | (obtain ⟨_, _, e, _⟩ := h; subst e; rfl) | (obtain ⟨_, _, _, e, _⟩ := h; subst e; rfl) | (obtain ⟨_, _, _, _, e, _⟩ := h; subst e; rfl) | (obtain ⟨_, _, _, _, _, e, _⟩ := h; subst e; rfl) | (obtain ⟨_, _, _, _, _, _, e, _⟩ := h; subst e; rfl) | (obtain ⟨_, _, _, _, _, _, _, e, _⟩ := h; subst e; rfl) | (obtain ⟨_, _, _, _, _, _, _, _, e, _⟩ := h; subst e; rfl) | (obtain ⟨_, _, _, _, _, _, _, _, _, e, _⟩ := h; subst e; rfl) | (obtain ⟨_, _, _, _, _, _, _, _, _, _, e, _⟩ := h; subst e; rfl) | (obtain ⟨_, _, _, _, _, _, _, _, _, _, _, e, _⟩ := h; subst e; rfl)) (fun cdv A outer s H vs Q E hr h => ⟨t_law_draw M, PSs.nox ?_, rd_law_draw  (E := E) h⟩)
  exact (pss_cons (ps_asg (pe_op op_add (pe_ix ix_list (pv 0) pe_int (fun _ _ => rfl)) pe_int) (pg_sub (pv 0) pe_int set_list))
    (pss_cons (ps_if (pt_cmpR op_gt (pe_ix ix_list (pv 0) pe_int (fun _ _ => rfl)) pe_int (nomark _)) (pss_cons (ps_asg (pe_callB call_divmod rfl B.divmod boot_divmod (pa_cons (pe_ix ix_list (pv 0) pe_int (fun _ _ => rfl)) (pa_cons (pv 1) pa_nil))) (pg_tup rfl (pgs_cons (pg_sub (pv 0) pe_int set_list) (pgs_cons (pg_name (i := 2) sc_law_draw.nd rfl (by first | exact Or.inl rfl | exact Or.inr rfl)) pgs_nil))))
    (pss_one (ps_ret (pv 2)))) pss_nil)
    (pss_cons (ps_set (i := 3) sc_law_draw.nd rfl (by first | exact Or.inl rfl | exact Or.inr rfl) (pe_op op_mod (pe_ix ix_list (pv 0) pe_int (fun _ _ => rfl)) pe_int))
    (pss_cons (ps_asg (pe_op op_add (pe_op op_mul (pv 3) (pe_op op_add (pe_op op_mod (pv 3) pe_int) pe_int)) (pe_op op_mul pe_int (pe_ix ix_list (pv 0) pe_int (fun _ _ => rfl)))) (pg_sub (pv 0) pe_int set_list))
    (pss_one (ps_ret (pe_op op_mod (pe_op op_fdiv (pe_op op_mod (pe_ix ix_list (pv 0) pe_int (fun _ _ => rfl)) pe_int) pe_int) (pv 1))))))))
end
end Crx

set_option maxHeartbeats 4000000
namespace Crx
open PySem PySem.Spec PyProof.Rows L2 RZ
section
variable {P : Program} {w : World} {mg : Str → Option Value} {base : Heap} {M : Md} {f : Addr} {fd : FuncData}
abbrev s_law_land : Stmt := top 52
theorem sc_law_land : FnScope N_law_land ["_law_source_here", "_law_least", "_law_most"] (defScope s_law_land) := ⟨rfl, rfl, rfl, by decide +kernel, rfl, by decide +kernel, by decide +kernel⟩
theorem ok_law_land (F : FunD M.K "_law_land" "_law_land" (defArgs s_law_land) (defBody s_law_land) (defScope s_law_land) [] [] f fd) (B : Bl mg) (G : Gl M mg) (W : Wd M) (C_law_draw : Cal P w M.K mg base "_law_draw" 1 ["_law_source_here", "_law_size"] (sp_law_draw M)) :
    FnOk P w M.K mg base CX0 2 f fd ["_law_source_here", "_law_least", "_law_most"] (sp_law_land M) := by
  refine FunD.ok F sc_law_land (fun vs H Q E h => by first | (obtain ⟨e, _⟩ := h; subst e; rfl) | (obtain ⟨_, e, _⟩ := h; subst e; rfl) | (obtain ⟨_, _, e, _⟩ := h; subst e; rfl) | (obtain ⟨_, _, _, e, _⟩ := h; subst e; rfl) | (obtain ⟨_, _, _, _, e, _⟩ := h; subst e; rfl) | (obtain ⟨_, _, _, _, _, e, _⟩ := h; subst e; rfl) | (obtain ⟨_, _, _, _, _, _, e, _⟩ := h; subst e; rfl) | (obtain ⟨_, _, _, _, _, _, _, e, _⟩ := h; subst e; rfl) | (obtain ⟨_, _, _, _, _, _, _, _, e, _⟩ := h; subst e; rfl) | (obtain ⟨_, _, _, _, _, _, _, _, _, e, _⟩ := h; subst e; rfl) | (obtain ⟨_, _, _, _, _, _, _, _, _, _, e, _⟩ := h; subst e; rfl) | (obtain ⟨_, _, _, _, _, _, _, _, _, _, _, e, _⟩ := h; subst e; rfl)) (fun cdv A outer s H vs Q E hr h => ⟨t_law_land M, PSs.nox ?_, rd_law_land  (E := E) h⟩)
  exact (pss_cons (ps_asg (pe_tup (pa_cons (pe_op op_add (pv 1) (pe_cal C_law_draw (hr.mono (by decide)) (pa_cons (pv 0) (pa_cons (pe_op op_add (pe_op op_sub (pv 2) (pv 1)) pe_int) pa_nil)))) (pa_cons (pe_cal C_law_draw (hr.mono (by decide)) (pa_cons (pv 0) (pa_cons pe_int pa_nil))) pa_nil))) (pg_tup rfl (pgs_cons (pg_name (i := 3) sc_law_land.nd rfl (by first | exact Or.inl rfl | exact Or.inr rfl)) (pgs_cons (pg_name (i := 4) sc_law_land.nd rfl (by first | exact Or.inl rfl | exact Or.inr rfl)) pgs_nil))))
    (pss_cons (ps_setLc (i := 5) (own := [("_law_spot", 6)]) (g := (gName 6)) (tt := (tAnd (tTest (tOp (rIn M.K false) (tVar 4) (tTup (tCons (tC (.int 4)) (tCons (tC (.int 6)) (tCons (tC (.int 7)) tNil)))))) (tTest (tOp rEq (tCall (sp_law_draw M) [] E0 (tCons (tVar 0) (tCons (tC (.int 3)) tNil))) (tC (.int 0)))))) rfl sc_law_land.nd rfl rfl (sw_true rfl rfl rfl (by decide +kernel)) (pi_range1 rfl B.range (pa_cons (pv 3) pa_nil)) (blkOk_by (own := [("_law_spot", 6)]) (N := N_law_land) (sc := defScope s_law_land) (by decide +kernel)) (fun _ _ _ _ _ => (pg_name (i := 6) sc_law_land.nd rfl (by first | exact Or.inl rfl | exact Or.inr rfl))) (fun _ _ _ _ _ => (pts_one (PW.pt (pw_and (pt_cmpR op_in_seq (pv 4) (pe_tup (pa_cons pe_int (pa_cons pe_int (pa_cons pe_int pa_nil)))) rfl) (pw_and1 (pt_cmpR op_eq (pe_cal C_law_draw (hr.mono (by decide)) (pa_cons (pv 0) (pa_cons pe_int pa_nil))) pe_int (nomark _))))))) (fun _ _ _ _ _ => (pv 6)))
    (pss_cons (ps_setLc (i := 7) (own := [("_law_spot", 6)]) (g := (gName 6)) (tt := (tAnd (tTest (tOp (rIn M.K false) (tVar 4) (tTup (tCons (tC (.int 5)) (tCons (tC (.int 6)) (tCons (tC (.int 7)) tNil)))))) (tTest (tOp rEq (tCall (sp_law_draw M) [] E0 (tCons (tVar 0) (tCons (tC (.int 3)) tNil))) (tC (.int 0)))))) rfl sc_law_land.nd rfl rfl (sw_true rfl rfl rfl (by decide +kernel)) (pi_range1 rfl B.range (pa_cons (pv 3) pa_nil)) (blkOk_by (own := [("_law_spot", 6)]) (N := N_law_land) (sc := defScope s_law_land) (by decide +kernel)) (fun _ _ _ _ _ => (pg_name (i := 6) sc_law_land.nd rfl (by first | exact Or.inl rfl | exact Or.inr rfl))) (fun _ _ _ _ _ => (pts_one (PW.pt (pw_and (pt_cmpR op_in_seq (pv 4) (pe_tup (pa_cons pe_int (pa_cons pe_int (pa_cons pe_int pa_nil)))) rfl) (pw_and1 (pt_cmpR op_eq (pe_cal C_law_draw (hr.mono (by decide)) (pa_cons (pv 0) (pa_cons pe_int pa_nil))) pe_int (nomark _))))))) (fun _ _ _ _ _ => (pv 6)))
    (pss_cons (ps_if (pt_cmpR op_eq (pv 4) pe_int (nomark _)) (pss_one (ps_set (i := 5) sc_law_land.nd rfl (by first | exact Or.inl rfl | exact Or.inr rfl) (pe_lst (pa_cons (pe_cal C_law_draw (hr.mono (by decide)) (pa_cons (pv 0) (pa_cons (pv 3) pa_nil))) pa_nil)))) pss_nil)
    (pss_cons (ps_if (pt_cmpR op_eq (pv 4) pe_int (nomark _)) (pss_one (ps_set (i := 7) sc_law_land.nd rfl (by first | exact Or.inl rfl | exact Or.inr rfl) (pe_lst (pa_cons (pe_cal C_law_draw (hr.mono (by decide)) (pa_cons (pv 0) (pa_cons (pv 3) pa_nil))) pa_nil)))) pss_nil)
    (pss_cons (ps_set (i := 8) sc_law_land.nd rfl (by first | exact Or.inl rfl | exact Or.inr rfl) (pe_ix ix_list (pe_lst (pa_cons pe_int (pa_cons pe_int (pa_cons pe_int pa_nil)))) (pe_cal C_law_draw (hr.mono (by decide)) (pa_cons (pv 0) (pa_cons pe_int pa_nil))) (fun _ _ => rfl)))
    (pss_one (ps_ret (pe_lst (pa_cons (pv 3) (pa_cons (pe_callTy call_tuple_of rfl B.tuple boot_tuple (pa_cons (pv 5) pa_nil)) (pa_cons (pe_callTy call_tuple_of rfl B.tuple boot_tuple (pa_cons (pv 7) pa_nil)) (pa_cons (pe_callTy call_tuple_of rfl B.tuple boot_tuple (pa_cons (pe_lc (own := [("_law_spot", 6)]) (g := (gName 6)) (tt := tYes) rfl sc_law_land.nd (pi_range1 rfl B.range (pa_cons (pv 3) pa_nil)) (blkOk_by (own := [("_law_spot", 6)]) (N := N_law_land) (sc := defScope s_law_land) (by decide +kernel)) (fun _ _ _ _ _ => (pg_name (i := 6) sc_law_land.nd rfl (by first | exact Or.inl rfl | exact Or.inr rfl))) (fun _ _ _ _ _ => pts_nil) (fun _ _ _ _ _ => (pe_op op_add pe_int (pe_cal C_law_draw (hr.mono (by decide)) (pa_cons (pv 0) (pa_cons (pv 8) pa_nil)))))) pa_nil)) pa_nil)))))))))))))
end
end Crx

set_option maxHeartbeats 4000000
namespace Crx
open PySem PySem.Spec PyProof.Rows L2 RZ
section
variable {P : Program} {w : World} {mg : Str → Option Value} {base : Heap} {M : Md} {f : Addr} {fd : FuncData}
abbrev s_law_filled : Stmt := top 56
theorem sc_law_filled : FnScope N_law_filled ["_law_source_here", "_law_many"] (defScope s_law_filled) := ⟨rfl, rfl, rfl, by decide +kernel, rfl, by decide +kernel, by decide +kernel⟩
theorem ok_law_filled (F : FunD M.K "_law_filled" "_law_filled" (defArgs s_law_filled) (defBody s_law_filled) (defScope s_law_filled) [] [] f fd) (B : Bl mg) (G : Gl M mg) (W : Wd M) (C_law_draw : Cal P w M.K mg base "_law_draw" 1 ["_law_source_here", "_law_size"] (sp_law_draw M)) :
    FnOk P w M.K mg base CX0 2 f fd ["_law_source_here", "_law_many"] (sp_law_filled M) := by
  refine FunD.ok F sc_law_filled (fun vs H Q E h => by first | (obtain ⟨e, _⟩ := h; subst e; rfl) | (obtain ⟨_, e, _⟩ := h; subst e; rfl) | (obtain ⟨_, _, e, _⟩ := h; subst e; rfl) | (obtain ⟨_, _, _, e, _⟩ := h; subst e; rfl) | (obtain ⟨_, _, _, _, e, _⟩ := h; subst e; rfl) | (obtain ⟨_, _, _, _, _, e, _⟩ := h; subst e; rfl) | (obtain ⟨_, _, _, _, _, _, e, _⟩ := h; subst e; rfl) | (obtain ⟨_, _, _, _, _, _, _, e, _⟩ := h; subst e; rfl) | (obtain ⟨_, _, _, _, _, _, _, _, e, _⟩ := h; subst e; rfl) | (obtain ⟨_, _, _, _, _, _, _, _, _, e, _⟩ := h; subst e; rfl) | (obtain ⟨_, _, _, _, _, _, _, _, _, _, e, _⟩ := h; subst e; rfl) | (obtain ⟨_, _, _, _, _, _, _, _, _, _, _, e, _⟩ := h; subst e; rfl)) (fun cdv A outer s H vs Q E hr h => ⟨t_law_filled M, PSs.nox ?_, rd_law_filled  (E := E) h⟩)
  exact (pss_cons (ps_set (i := 2) sc_law_filled.nd rfl (by first | exact Or.inl rfl | exact Or.inr rfl) pe_str)
    (pss_cons (ps_asg (pe_tup (pa_cons (pe_cal C_law_draw (hr.mono (by decide)) (pa_cons (pv 0) (pa_cons pe_int pa_nil))) (pa_cons (pe_ix ix_list (pe_lst (pa_cons pe_int (pa_cons pe_int (pa_cons pe_int (pa_cons pe_int (pa_cons pe_int pa_nil)))))) (pe_cal C_law_draw (hr.mono (by decide)) (pa_cons (pv 0) (pa_cons pe_int pa_nil))) (fun _ _ => rfl)) pa_nil))) (pg_tup rfl (pgs_cons (pg_name (i := 3) sc_law_filled.nd rfl (by first | exact Or.inl rfl | exact Or.inr rfl)) (pgs_cons (pg_name (i := 4) sc_law_filled.nd rfl (by first | exact Or.inl rfl | exact Or.inr rfl)) pgs_nil))))
    (pss_cons (ps_if (pt_cmpR op_eq (pv 4) pe_int (nomark _)) (pss_one (ps_ret (pe_slice sl_str (pv 2) (po_some (pv 3)) (po_some (pe_op op_add (pv 3) (pv 1)))))) pss_nil)
    (pss_one (ps_ret (pe_join pe_str (pe_lc (own := [("_law_spot", 5)]) (g := (gName 5)) (tt := tYes) rfl sc_law_filled.nd (pi_range1 rfl B.range (pa_cons (pv 1) pa_nil)) (blkOk_by (own := [("_law_spot", 5)]) (N := N_law_filled) (sc := defScope s_law_filled) (by decide +kernel)) (fun _ _ _ _ _ => (pg_name (i := 5) sc_law_filled.nd rfl (by first | exact Or.inl rfl | exact Or.inr rfl))) (fun _ _ _ _ _ => pts_nil) (fun _ _ _ _ _ => (pe_ix ix_str (pv 2) (pe_op op_add (pv 3) (pe_cal C_law_draw (hr.mono (by decide)) (pa_cons (pv 0) (pa_cons (pv 4) pa_nil)))) (fun _ _ => rfl))))))))))
end
end Crx

set_option maxHeartbeats 4000000
namespace Crx
open PySem PySem.Spec PyProof.Rows L2 RZ
section
variable {P : Program} {w : World} {mg : Str → Option Value} {base : Heap} {M : Md} {f : Addr} {fd : FuncData}
abbrev s_is_integer : Stmt := top 17
theorem sc_is_integer : FnScope N_is_integer ["value", "low", "high"] (defScope s_is_integer) := ⟨rfl, rfl, rfl, by decide +kernel, rfl, by decide +kernel, by decide +kernel⟩
theorem ok_is_integer (F : FunD M.K "is_integer" "is_integer" (defArgs s_is_integer) (defBody s_is_integer) (defScope s_is_integer) [] [] f fd) (B : Bl mg) (G : Gl M mg) (W : Wd M) :
    FnOk P w M.K mg base CX0 1 f fd ["value", "low", "high"] (sp_is_integer M) := by
  refine FunD.ok F sc_is_integer (fun vs H Q E h => by first | (obtain ⟨e, _⟩ := h; subst e; rfl) | (obtain ⟨_, e, _⟩ := h; subst e; rfl) | (obtain ⟨_, _, e, _⟩ := h; subst e; rfl) | (obtain ⟨_, _, _, e, _⟩ := h; subst e; rfl) | (obtain ⟨_, _, _, _, e, _⟩ := h; subst e; rfl) | (obtain ⟨_, _, _, _, _, e, _⟩ := h; subst e; rfl) | (obtain ⟨_, _, _, _, _, _, e, _⟩ := h; subst e; rfl) | (obtain ⟨_, _, _, _, _, _, _, e, _⟩ := h; subst e; rfl) | (obtain ⟨_, _, _, _, _, _, _, _, e, _⟩ := h; subst e; rfl) | (obtain ⟨_, _, _, _, _, _, _, _, _, e, _⟩ := h; subst e; rfl) | (obtain ⟨_, _, _, _, _, _, _, _, _, _, e, _⟩ := h; subst e; rfl) | (obtain ⟨_, _, _, _, _, _, _, _, _, _, _, e, _⟩ := h; subst e; rfl)) (fun cdv A outer s H vs Q E hr h => ⟨t_is_integer M, PSs.nox ?_, rd_is_integer  (E := E) h⟩)
  exact (pss_one (ps_ret (pe_and (pe_callB call_isi rfl B.isinstance boot_isinstance (pa_cons (pv 0) (pa_cons (pe_ty rfl B.int boot_int) pa_nil))) (pe_and (pe_not (pe_callB call_isi rfl B.isinstance boot_isinstance (pa_cons (pv 0) (pa_cons (pe_ty rfl B.bool boot_bool) pa_nil)))) (pe_one (pe_chain op_le op_le (pv 1) (pv 0) (pv 2)))))))
end
end Crx

set_option maxHeartbeats 4000000
namespace Crx
open PySem PySem.Spec PyProof.Rows L2 RZ
section
variable {P : Program} {w : World} {mg : Str → Option Value} {base : Heap} {M : Md} {f : Addr} {fd : FuncData}
abbrev s_is_ascending : Stmt := top 18
theorem sc_is_ascending : FnScope N_is_ascending ["value", "low", "high"] (defScope s_is_ascending) := ⟨rfl, rfl, rfl, by decide +kernel, rfl, by decide +kernel, by decide +kernel⟩
theorem ok_is_ascending (F : FunD M.K "is_ascending" "is_ascending" (defArgs s_is_ascending) (defBody s_is_ascending) (defScope s_is_ascending) [] [] f fd) (B : Bl mg) (G : Gl M mg) (W : Wd M) (C_is_integer : Cal P w M.K mg base "is_integer" 1 ["value", "low", "high"] (sp_is_integer M)) :
    FnOk P w M.K mg base CX0 2 f fd ["value", "low", "high"] (sp_is_ascending M) := by
  refine FunD.ok F sc_is_ascending (fun vs H Q E h => by first | (obtain ⟨e, _⟩ := h; subst e; rfl) | (obtain ⟨_, e, _⟩ := h; subst e; rfl) | (obtain ⟨_, _, e, _⟩ := h; subst e; rfl) | (obtain ⟨_, _, _, e, _⟩ := h; subst e; rfl) | (obtain ⟨_, _, _, _, e, _⟩ := h; subst e; rfl) | (obtain ⟨_, _, _, _, _, e, _⟩ := h; subst e; rfl) | (obtain ⟨_, _, _, _, _, _, e, _⟩ := h; subst e; rfl) | (obtain ⟨_, _, _, _, _, _, _, e, _⟩ := h; subst e; rfl) | (obtain ⟨_, _, _, _, _, _, _, _, e, _⟩ := h; subst e; rfl) | (obtain ⟨_, _, _, _, _, _, _, _, _, e, _⟩ := h; subst e; rfl) | (obtain ⟨_, _, _, _, _, _, _, _, _, _, e, _⟩ := h; subst e; rfl) | (obtain ⟨_, _, _, _, _, _, _, _, _, _, _, e, _⟩ := h; subst e; rfl)) (fun cdv A outer s H vs Q E hr h => ⟨t_is_ascending M, PSs.nox ?_, rd_is_ascending  (E := E) h⟩)
  exact (pss_cons (ps_if (PW.pt (pw_or (pt_not (pt_val (pe_callB call_isi rfl B.isinstance boot_isinstance (pa_cons (pv 0) (pa_cons (pe_ty rfl B.tuple boot_tuple) pa_nil))))) (pw_or1 (pt_not (pt_val (pe_callB (cr_all rfl) rfl B.all boot_all (pa_cons (pe_lc (own := [("item", 3)]) (g := (gName 3)) (tt := tYes) rfl sc_is_ascending.nd (pi_tup (pv 0)) (blkOk_by (own := [("item", 3)]) (N := N_is_ascending) (sc := defScope s_is_ascending) (by decide +kernel)) (fun _ _ _ _ _ => (pg_name (i := 3) sc_is_ascending.nd rfl (by first | exact Or.inl rfl | exact Or.inr rfl))) (fun _ _ _ _ _ => pts_nil) (fun _ _ _ _ _ => (pe_cal C_is_integer (hr.mono (by decide)) (pa_cons (pv 3) (pa_cons (pv 1) (pa_cons (pv 2) pa_nil)))))) pa_nil))))))) (pss_one (ps_ret pe_bl)) pss_nil)
    (pss_one (ps_ret (pe_callB (cr_all rfl) rfl B.all boot_all (pa_cons (pe_lc (own := [("one", 4), ("other", 5)]) (g := (gTup M.K 2 (gCons (gName 4) (gCons (gName 5) gNil)))) (tt := tYes) rfl sc_is_ascending.nd (pi_zipA rfl B.zip (pa_cons (pv 0) (pa_cons (pe_slice sl_tupA (pv 0) (po_some pe_int) po_none) pa_nil))) (blkOk_by (own := [("one", 4), ("other", 5)]) (N := N_is_ascending) (sc := defScope s_is_ascending) (by decide +kernel)) (fun _ _ _ _ _ => (pg_tup rfl (pgs_cons (pg_name (i := 4) sc_is_ascending.nd rfl (by first | exact Or.inl rfl | exact Or.inr rfl)) (pgs_cons (pg_name (i := 5) sc_is_ascending.nd rfl (by first | exact Or.inl rfl | exact Or.inr rfl)) pgs_nil)))) (fun _ _ _ _ _ => pts_nil) (fun _ _ _ _ _ => (pe_cmpR op_lt (pv 4) (pv 5) (nomark _)))) pa_nil)))))
end
end Crx

set_option maxHeartbeats 4000000
namespace Crx
open PySem PySem.Spec PyProof.Rows L2 RZ
section
variable {P : Program} {w : World} {mg : Str → Option Value} {base : Heap} {M : Md} {f : Addr} {fd : FuncData}
abbrev s_checked_prices : Stmt := top 26
theorem sc_checked_prices : FnScope N_checked_prices ["size", "prices"] (defScope s_checked_prices) := ⟨rfl, rfl, rfl, by decide +kernel, rfl, by decide +kernel, by decide +kernel⟩
theorem ok_checked_prices (F : FunD M.K "checked_prices" "checked_prices" (defArgs s_checked_prices) (defBody s_checked_prices) (defScope s_checked_prices) [] [] f fd) (B : Bl mg) (G : Gl M mg) (W : Wd M) (C_is_integer : Cal P w M.K mg base "is_integer" 1 ["value", "low", "high"] (sp_is_integer M)) :
    FnOk P w M.K mg base CX0 2 f fd ["size", "prices"] (sp_checked_prices M) := by
  refine FunD.ok F sc_checked_prices (fun vs H Q E h => by first | (obtain ⟨e, _⟩ := h; subst e; rfl) | (obtain ⟨_, e, _⟩ := h; subst e; rfl) | (obtain ⟨_, _, e, _⟩ := h; subst e; rfl) | (obtain ⟨_, _, _, e, _⟩ := h; subst e; rfl) | (obtain ⟨_, _, _, _, e, _⟩ := h; subst e; rfl) | (obtain ⟨_, _, _, _, _, e, _⟩ := h; subst e; rfl) | (obtain ⟨_, _, _, _, _, _, e, _⟩ := h; subst e; rfl) | (obtain ⟨_, _, _, _, _, _, _, e, _⟩ := h; subst e; rfl) | (obtain ⟨_, _, _, _, _, _, _, _, e, _⟩ := h; subst e; rfl) | (obtain ⟨_, _, _, _, _, _, _, _, _, e, _⟩ := h; subst e; rfl) | (obtain ⟨_, _, _, _, _, _, _, _, _, _, e, _⟩ := h; subst e; rfl) | (obtain ⟨_, _, _, _, _, _, _, _, _, _, _, e, _⟩ := h; subst e; rfl)) (fun cdv A outer s H vs Q E hr h => ⟨t_checked_prices M, PSs.nox ?_, rd_checked_prices  (E := E) h⟩)
  exact (pss_cons (ps_if (PW.pt (pw_and (pt_val (pe_callB call_isi rfl B.isinstance boot_isinstance (pa_cons (pv 1) (pa_cons (pe_ty rfl B.tuple boot_tuple) pa_nil)))) (pw_and1 (pt_cmpR (op_eqD hr.units) (pv 1) (pe_tup pa_nil) (nomark _))))) (pss_one (ps_ret (pe_op op_repT (pe_tup (pa_cons pe_int pa_nil)) (pv 0)))) pss_nil)
    (pss_cons (ps_if (PW.pt (pw_or (pt_not (pt_val (pe_callB call_isi rfl B.isinstance boot_isinstance (pa_cons (pv 1) (pa_cons (pe_ty rfl B.tuple boot_tuple) pa_nil))))) (pw_or1 (pt_cmpR op_ne (pe_callB call_len_seq rfl B.len boot_len (pa_cons (pv 1) pa_nil)) (pv 0) (nomark _))))) (pss_one ps_never) pss_nil)
    (pss_cons (ps_for PassesOwn.never rfl (pi_enumT rfl B.enumerate (pa_cons (pv 1) pa_nil)) (pg_tup rfl (pgs_cons (pg_name (i := 2) sc_checked_prices.nd rfl (by first | exact Or.inl rfl | exact Or.inr rfl)) (pgs_cons (pg_name (i := 3) sc_checked_prices.nd rfl (by first | exact Or.inl rfl | exact Or.inr rfl)) pgs_nil))) (pss_one (ps_if (pt_not (pt_val (pe_cal C_is_integer (hr.mono (by decide)) (pa_cons (pv 3) (pa_cons pe_int (pa_cons (pe_gi rfl G.gMAX_PRICE) pa_nil)))))) (pss_one ps_never) pss_nil)))
    (pss_one (ps_ret (pv 1))))))
end
end Crx

set_option maxHeartbeats 4000000
namespace Crx
open PySem PySem.Spec PyProof.Rows L2 RZ
section
variable {P : Program} {w : World} {mg : Str → Option Value} {base : Heap} {M : Md} {f : Addr} {fd : FuncData}
abbrev s_Ring_init : Stmt := inClass (top 25) 0
theorem sc_Ring_init : FnScope N_Ring_init ["self", "size", "locks", "walls", "prices"] (defScope s_Ring_init) := ⟨rfl, rfl, rfl, by decide +kernel, rfl, by decide +kernel, by decide +kernel⟩
theorem ok_Ring_init (F : FunD M.K "__init__" "Ring.__init__" (defArgs s_Ring_init) (defBody s_Ring_init) (defScope s_Ring_init) [] [] f fd) (B : Bl mg) (G : Gl M mg) (W : Wd M) (C_is_integer : Cal P w M.K mg base "is_integer" 1 ["value", "low", "high"] (sp_is_integer M)) (C_is_ascending : Cal P w M.K mg base "is_ascending" 2 ["value", "low", "high"] (sp_is_ascending M)) (C_checked_prices : Cal P w M.K mg base "checked_prices" 2 ["size", "prices"] (sp_checked_prices M)) :
    FnOk P w M.K mg base CX0 3 f fd ["self", "size", "locks", "walls", "prices"] (sp_Ring_init M) := by
  refine FunD.ok F sc_Ring_init (fun vs H Q E h => by first | (obtain ⟨e, _⟩ := h; subst e; rfl) | (obtain ⟨_, e, _⟩ := h; subst e; rfl) | (obtain ⟨_, _, e, _⟩ := h; subst e; rfl) | (obtain ⟨_, _, _, e, _⟩ := h; subst e; rfl) | (obtain ⟨_, _, _, _, e, _⟩ := h; subst e; rfl) | (obtain ⟨_, _, _, _, _, e, _⟩ := h; subst e; rfl) | (obtain ⟨_, _, _, _, _, _, e, _⟩ := h; subst e; rfl) | (obtain ⟨_, _, _, _, _, _, _, e, _⟩ := h; subst e; rfl) | (obtain ⟨_, _, _, _, _, _, _, _, e, _⟩ := h; subst e; rfl) | (obtain ⟨_, _, _, _, _, _, _, _, _, e, _⟩ := h; subst e; rfl) | (obtain ⟨_, _, _, _, _, _, _, _, _, _, e, _⟩ := h; subst e; rfl) | (obtain ⟨_, _, _, _, _, _, _, _, _, _, _, e, _⟩ := h; subst e; rfl)) (fun cdv A outer s H vs Q E hr h => ⟨t_Ring_init M, PSs.nox ?_, rd_Ring_init W.CR (E := E) h⟩)
  exact (pss_cons (ps_if (pt_not (pt_val (pe_cal C_is_integer (hr.mono (by decide)) (pa_cons (pv 1) (pa_cons (pe_gi rfl G.gMIN_SIZE) (pa_cons (pe_gi rfl G.gMAX_SIZE) pa_nil)))))) (pss_one ps_never) pss_nil)
    (pss_cons (ps_if (pt_not (pt_val (pe_cal C_is_ascending (hr.mono (by decide)) (pa_cons (pv 2) (pa_cons pe_int (pa_cons (pe_op op_sub (pv 1) pe_int) pa_nil)))))) (pss_one ps_never) pss_nil)
    (pss_cons (ps_if (pt_not (pt_val (pe_cal C_is_ascending (hr.mono (by decide)) (pa_cons (pv 3) (pa_cons pe_int (pa_cons (pe_op op_sub (pv 1) pe_int) pa_nil)))))) (pss_one ps_never) pss_nil)
    (pss_cons (ps_fld (pv 0) (pv 1) rfl)
    (pss_cons (ps_fld (pv 0) (pv 2) rfl)
    (pss_cons (ps_fld (pv 0) (pv 3) rfl)
    (pss_one (ps_fld (pv 0) (pe_cal C_checked_prices (hr.mono (by decide)) (pa_cons (pv 1) (pa_cons (pv 4) pa_nil))) rfl))))))))
end
end Crx

set_option maxHeartbeats 4000000
namespace Crx
open PySem PySem.Spec PyProof.Rows L2 RZ
section
variable {P : Program} {w : World} {mg : Str → Option Value} {base : Heap} {M : Md} {f : Addr} {fd : FuncData}
abbrev s_read_number : Stmt := top 44
theorem sc_read_number : FnScope N_read_number ["text", "start"] (defScope s_read_number) := ⟨rfl, rfl, rfl, by decide +kernel, rfl, by decide +kernel, by decide +kernel⟩
theorem ok_read_number (F : FunD M.K "read_number" "read_number" (defArgs s_read_number) (defBody s_read_number) (defScope s_read_number) [] [] f fd) (B : Bl mg) (G : Gl M mg) (W : Wd M) :
    FnOk P w M.K mg base CX0 1 f fd ["text", "start"] (sp_read_number M) := by
  refine FunD.ok F sc_read_number (fun vs H Q E h => by first | (obtain ⟨e, _⟩ := h; subst e; rfl) | (obtain ⟨_, e, _⟩ := h; subst e; rfl) | (obtain ⟨_, _, e, _⟩ := h; subst e; rfl) | (obtain ⟨_, _, _, e, _⟩ := h; subst e; rfl) | (obtain ⟨_, _, _, _, e, _⟩ := h; subst e; rfl) | (obtain ⟨_, _, _, _, _, e, _⟩ := h; subst e; rfl) | (obtain ⟨_, _, _, _, _, _, e, _⟩ := h; subst e; rfl) | (obtain ⟨_, _, _, _, _, _, _, e, _⟩ := h; subst e; rfl) | (obtain ⟨_, _, _, _, _, _, _, _, e, _⟩ := h; subst e; rfl) | (obtain ⟨_, _, _, _, _, _, _, _, _, e, _⟩ := h; subst e; rfl) | (obtain ⟨_, _, _, _, _, _, _, _, _, _, e, _⟩ := h; subst e; rfl) | (obtain ⟨_, _, _, _, _, _, _, _, _, _, _, e, _⟩ := h; subst e; rfl)) (fun cdv A outer s H vs Q E hr h => ⟨t_read_number M, PSs.nox ?_, rd_read_number  (E := E) h⟩)
  exact (pss_cons (ps_set (i := 2) sc_read_number.nd rfl (by first | exact Or.inl rfl | exact Or.inr rfl) (pv 1))
    (pss_cons (ps_while PassesOwn.never (PW.pt (pw_and (pt_cmpR op_lt (pv 2) (pe_callB call_len_str rfl B.len boot_len (pa_cons (pv 0) pa_nil)) (nomark _)) (pw_and1 (pt_cmpR op_in_sign (pe_ix ix_str (pv 0) (pv 2) (fun _ _ => rfl)) (pe_gs rfl G.gDIGITS) rfl)))) (pss_one (ps_aug (i := 2) sc_read_number.nd rfl (by first | exact Or.inl rfl | exact Or.inr rfl) pe_int ip_add)))
    (pss_cons (ps_set (i := 3) sc_read_number.nd rfl (by first | exact Or.inl rfl | exact Or.inr rfl) (pe_slice sl_str (pv 0) (po_some (pv 1)) (po_some (pv 2))))
    (pss_cons (ps_if (PW.pt (pw_or (pt_not (pt_chain op_le op_le pe_int (pe_callB call_len_str rfl B.len boot_len (pa_cons (pv 3) pa_nil)) (pe_gi rfl G.gMAX_DIGITS))) (pw_or1 (PW.pt (pw_and (pt_cmpR op_ne (pv 3) pe_str (nomark _)) (pw_and1 (pt_cmpR op_eq (pe_ix ix_str (pv 3) pe_int (fun _ _ => rfl)) pe_str (nomark _)))))))) (pss_one (ps_ret (pe_tup (pa_cons pe_non (pa_cons (pv 2) pa_nil))))) pss_nil)
    (pss_one (ps_ret (pe_tup (pa_cons (pe_callTy call_int_str rfl B.int boot_int (pa_cons (pv 3) pa_nil)) (pa_cons (pv 2) pa_nil)))))))))
end
end Crx

set_option maxHeartbeats 4000000
namespace Crx
open PySem PySem.Spec PyProof.Rows L2 RZ
section
variable {P : Program} {w : World} {mg : Str → Option Value} {base : Heap} {M : Md} {f : Addr} {fd : FuncData}
abbrev s_numbers_of : Stmt := top 45
theorem sc_numbers_of : FnScope N_numbers_of ["words"] (defScope s_numbers_of) := ⟨rfl, rfl, rfl, by decide +kernel, rfl, by decide +kernel, by decide +kernel⟩
theorem ok_numbers_of (F : FunD M.K "numbers_of" "numbers_of" (defArgs s_numbers_of) (defBody s_numbers_of) (defScope s_numbers_of) [] [] f fd) (B : Bl mg) (G : Gl M mg) (W : Wd M) (C_read_number : Cal P w M.K mg base "read_number" 1 ["text", "start"] (sp_read_number M)) :
    FnOk P w M.K mg base CX0 2 f fd ["words"] (sp_numbers_of M) := by
  refine FunD.ok F sc_numbers_of (fun vs H Q E h => by first | (obtain ⟨e, _⟩ := h; subst e; rfl) | (obtain ⟨_, e, _⟩ := h; subst e; rfl) | (obtain ⟨_, _, e, _⟩ := h; subst e; rfl) | (obtain ⟨_, _, _, e, _⟩ := h; subst e; rfl) | (obtain ⟨_, _, _, _, e, _⟩ := h; subst e; rfl) | (obtain ⟨_, _, _, _, _, e, _⟩ := h; subst e; rfl) | (obtain ⟨_, _, _, _, _, _, e, _⟩ := h; subst e; rfl) | (obtain ⟨_, _, _, _, _, _, _, e, _⟩ := h; subst e; rfl) | (obtain ⟨_, _, _, _, _, _, _, _, e, _⟩ := h; subst e; rfl) | (obtain ⟨_, _, _, _, _, _, _, _, _, e, _⟩ := h; subst e; rfl) | (obtain ⟨_, _, _, _, _, _, _, _, _, _, e, _⟩ := h; subst e; rfl) | (obtain ⟨_, _, _, _, _, _, _, _, _, _, _, e, _⟩ := h; subst e; rfl)) (fun cdv A outer s H vs Q E hr h => ⟨t_numbers_of M, PSs.nox ?_, rd_numbers_of  (E := E) h⟩)
  exact (pss_cons (ps_set (i := 1) sc_numbers_of.nd rfl (by first | exact Or.inl rfl | exact Or.inr rfl) (pe_lst pa_nil))
    (pss_cons (ps_for PassesOwn.never rfl (pi_list (pv 0)) (pg_name (i := 2) sc_numbers_of.nd rfl (by first | exact Or.inl rfl | exact Or.inr rfl)) (pss_cons (ps_asg (pe_cal C_read_number (hr.mono (by decide)) (pa_cons (pv 2) (pa_cons pe_int pa_nil))) (pg_tup rfl (pgs_cons (pg_name (i := 3) sc_numbers_of.nd rfl (by first | exact Or.inl rfl | exact Or.inr rfl)) (pgs_cons (pg_name (i := 4) sc_numbers_of.nd rfl (by first | exact Or.inl rfl | exact Or.inr rfl)) pgs_nil))))
    (pss_one (ps_expr (pe_bm PySem.F.plainAttrs_list PySem.F.slot_list_append PySem.F.type_list_append mt_append (pv 1) (pa_cons (pe_ifExp (PW.pt (pw_and (pt_cmpR op_notN (pv 3) pe_non (nomark _)) (pw_and1 (pt_cmpR op_eq (pv 4) (pe_callB call_len_str rfl B.len boot_len (pa_cons (pv 2) pa_nil)) (nomark _))))) (pv 3) (pe_un un_neg pe_int)) pa_nil))))))
    (pss_one (ps_ret (pe_callTy call_tuple_of rfl B.tuple boot_tuple (pa_cons (pv 1) pa_nil))))))
end
end Crx

set_option maxHeartbeats 4000000
namespace Crx
open PySem PySem.Spec PyProof.Rows L2 RZ
section
variable {P : Program} {w : World} {mg : Str → Option Value} {base : Heap} {M : Md} {f : Addr} {fd : FuncData}
abbrev s_read_ring : Stmt := top 46
theorem sc_read_ring : FnScope N_read_ring ["text"] (defScope s_read_ring) := ⟨rfl, rfl, rfl, by decide +kernel, rfl, by decide +kernel, by decide +kernel⟩
theorem ok_read_ring (F : FunD M.K "read_ring" "read_ring" (defArgs s_read_ring) (defBody s_read_ring) (defScope s_read_ring) [] [] f fd) (B : Bl mg) (G : Gl M mg) (W : Wd M) (C_numbers_of : Cal P w M.K mg base "numbers_of" 2 ["words"] (sp_numbers_of M)) (C_mk_Ring_1_locks_walls_prices : MkK P w M.K mg base "Ring" M.ring 3 1 ["locks", "walls", "prices"] (sp_Ring_init M) (mk_Ring_1_locks_walls_prices_g M)) :
    FnOk P w M.K mg base CX0 5 f fd ["text"] (sp_read_ring M) := by
  refine FunD.ok F sc_read_ring (fun vs H Q E h => by first | (obtain ⟨e, _⟩ := h; subst e; rfl) | (obtain ⟨_, e, _⟩ := h; subst e; rfl) | (obtain ⟨_, _, e, _⟩ := h; subst e; rfl) | (obtain ⟨_, _, _, e, _⟩ := h; subst e; rfl) | (obtain ⟨_, _, _, _, e, _⟩ := h; subst e; rfl) | (obtain ⟨_, _, _, _, _, e, _⟩ := h; subst e; rfl) | (obtain ⟨_, _, _, _, _, _, e, _⟩ := h; subst e; rfl) | (obtain ⟨_, _, _, _, _, _, _, e, _⟩ := h; subst e; rfl) | (obtain ⟨_, _, _, _, _, _, _, _, e, _⟩ := h; subst e; rfl) | (obtain ⟨_, _, _, _, _, _, _, _, _, e, _⟩ := h; subst e; rfl) | (obtain ⟨_, _, _, _, _, _, _, _, _, _, e, _⟩ := h; subst e; rfl) | (obtain ⟨_, _, _, _, _, _, _, _, _, _, _, e, _⟩ := h; subst e; rfl)) (fun cdv A outer s H vs Q E hr h => ⟨t_read_ring M, PSs.nox ?_, rd_read_ring  (E := E) h⟩)
  exact (pss_cons (ps_set (i := 1) sc_read_ring.nd rfl (by first | exact Or.inl rfl | exact Or.inr rfl) (pe_split (pv 0) pe_str))
    (pss_cons (ps_if (PW.pt (pw_or (pt_cmpR op_ne (pe_ix ix_list (pv 1) pe_int (fun _ _ => rfl)) pe_str (nomark _)) (pw_or1 (pt_cmpR (op_neD hr.units) (pe_lc (own := [("word", 2)]) (g := (gName 2)) (tt := tYes) rfl sc_read_ring.nd (pi_tup (pe_tup (pa_cons pe_str (pa_cons pe_str (pa_cons pe_str pa_nil))))) (blkOk_by (own := [("word", 2)]) (N := N_read_ring) (sc := defScope s_read_ring) (by decide +kernel)) (fun _ _ _ _ _ => (pg_name (i := 2) sc_read_ring.nd rfl (by first | exact Or.inl rfl | exact Or.inr rfl))) (fun _ _ _ _ _ => pts_nil) (fun _ _ _ _ _ => (pe_bm PySem.F.plainAttrs_list PySem.F.slot_list_count PySem.F.type_list_count mt_countV (pv 1) (pa_cons (pv 2) pa_nil)))) (pe_lst (pa_cons pe_int (pa_cons pe_int (pa_cons pe_int pa_nil)))) (nomark _))))) (pss_one ps_never) pss_nil)
    (pss_cons (ps_par3 (i := 3) (j := 4) (l := 5) rfl sc_read_ring.nd rfl rfl rfl (by decide) (by decide) (by decide) rfl rfl rfl (pa_cons (pe_bm PySem.F.plainAttrs_list PySem.F.slot_list_index PySem.F.type_list_index mt_index (pv 1) (pa_cons pe_str pa_nil)) (pa_cons (pe_bm PySem.F.plainAttrs_list PySem.F.slot_list_index PySem.F.type_list_index mt_index (pv 1) (pa_cons pe_str pa_nil)) (pa_cons (pe_bm PySem.F.plainAttrs_list PySem.F.slot_list_index PySem.F.type_list_index mt_index (pv 1) (pa_cons pe_str pa_nil)) pa_nil))) (by rfl))
    (pss_cons (ps_if (pt_not (pt_chain3 op_eq op_lt op_lt pe_int (pv 3) (pv 4) (pv 5))) (pss_one ps_never) pss_nil)
    (pss_cons (ps_par (i := 6) (j := 7) rfl sc_read_ring.nd rfl rfl (by decide) rfl rfl (pa_cons (pe_ix ix_tup (pe_cal C_numbers_of (hr.mono (by decide)) (pa_cons (pe_slice sl_list (pv 1) (po_some pe_int) (po_some pe_int)) pa_nil)) pe_int (fun _ _ => rfl)) (pa_cons (pe_cal C_numbers_of (hr.mono (by decide)) (pa_cons (pe_slice sl_list (pv 1) (po_some (pe_op op_add (pv 5) pe_int)) po_none) pa_nil)) pa_nil)) (by rfl))
    (pss_one (ps_ret (pe_mkK C_mk_Ring_1_locks_walls_prices (hr.mono (by decide)) (pa_cons (pv 6) pa_nil) (pk_cons (pe_cal C_numbers_of (hr.mono (by decide)) (pa_cons (pe_slice sl_list (pv 1) (po_some pe_int) (po_some (pv 4))) pa_nil)) (pk_cons (pe_cal C_numbers_of (hr.mono (by decide)) (pa_cons (pe_slice sl_list (pv 1) (po_some (pe_op op_add (pv 4) pe_int)) (po_some (pv 5))) pa_nil)) (pk_cons (pv 7) pk_nil)))))))))))
end
end Crx

set_option maxHeartbeats 4000000
namespace Crx
open PySem PySem.Spec PyProof.Rows L2 RZ
section
variable {P : Program} {w : World} {mg : Str → Option Value} {base : Heap} {M : Md} {f : Addr} {fd : FuncData}
abbrev s_Ring_str : Stmt := inClass (top 25) 2
theorem sc_Ring_str : FnScope N_Ring_str ["self"] (defScope s_Ring_str) := ⟨rfl, rfl, rfl, by decide +kernel, rfl, by decide +kernel, by decide +kernel⟩
theorem ok_Ring_str (F : FunD M.K "__str__" "Ring.__str__" (defArgs s_Ring_str) (defBody s_Ring_str) (defScope s_Ring_str) [] [] f fd) (B : Bl mg) (G : Gl M mg) (W : Wd M) :
    FnOk P w M.K mg base CX0 1 f fd ["self"] (sp_Ring_str M) := by
  refine FunD.ok F sc_Ring_str (fun vs H Q E h => by first | (obtain ⟨e, _⟩ := h; subst e; rfl) | (obtain ⟨_, e, _⟩ := h; subst e; rfl) | (obtain ⟨_, _, e, _⟩ := h; subst e; rfl) | (obtain ⟨_, _, _, e, _⟩ := h; subst e; rfl) | (obtain ⟨_, _, _, _, e, _⟩ := h; subst e; rfl) | (obtain ⟨_, _, _, _, _, e, _⟩ := h; subst e; rfl) | (obtain ⟨_, _, _, _, _, _, e, _⟩ := h; subst e; rfl) | (obtain ⟨_, _, _, _, _, _, _, e, _⟩ := h; subst e; rfl) | (obtain ⟨_, _, _, _, _, _, _, _, e, _⟩ := h; subst e; rfl) | (obtain ⟨_, _, _, _, _, _, _, _, _, e, _⟩ := h; subst e; rfl) | (obtain ⟨_, _, _, _, _, _, _, _, _, _, e, _⟩ := h; subst e; rfl) | (obtain ⟨_, _, _, _, _, _, _, _, _, _, _, e, _⟩ := h; subst e; rfl)) (fun cdv A outer s H vs Q E hr h => ⟨t_Ring_str M, PSs.nox ?_, rd_Ring_str W.CR (E := E) h⟩)
  exact (pss_cons (ps_set (i := 1) sc_Ring_str.nd rfl (by first | exact Or.inl rfl | exact Or.inr rfl) (pe_op op_cat (pe_lst (pa_cons pe_str (pa_cons (pe_callTy call_str_int rfl B.str boot_str (pa_cons (pe_fld (pv 0) rfl) pa_nil)) (pa_cons pe_str pa_nil)))) (pe_lc (own := [("place", 2)]) (g := (gName 2)) (tt := tYes) rfl sc_Ring_str.nd (pi_tup (pe_fld (pv 0) rfl)) (blkOk_by (own := [("place", 2)]) (N := N_Ring_str) (sc := defScope s_Ring_str) (by decide +kernel)) (fun _ _ _ _ _ => (pg_name (i := 2) sc_Ring_str.nd rfl (by first | exact Or.inl rfl | exact Or.inr rfl))) (fun _ _ _ _ _ => pts_nil) (fun _ _ _ _ _ => (pe_callTy call_str_int rfl B.str boot_str (pa_cons (pv 2) pa_nil))))))
    (pss_cons (ps_set (i := 1) sc_Ring_str.nd rfl (by first | exact Or.inl rfl | exact Or.inr rfl) (pe_op op_cat (pe_op op_cat (pv 1) (pe_lst (pa_cons pe_str pa_nil))) (pe_lc (own := [("place", 2)]) (g := (gName 2)) (tt := tYes) rfl sc_Ring_str.nd (pi_tup (pe_fld (pv 0) rfl)) (blkOk_by (own := [("place", 2)]) (N := N_Ring_str) (sc := defScope s_Ring_str) (by decide +kernel)) (fun _ _ _ _ _ => (pg_name (i := 2) sc_Ring_str.nd rfl (by first | exact Or.inl rfl | exact Or.inr rfl))) (fun _ _ _ _ _ => pts_nil) (fun _ _ _ _ _ => (pe_callTy call_str_int rfl B.str boot_str (pa_cons (pv 2) pa_nil))))))
    (pss_one (ps_ret (pe_join pe_str (pe_op op_cat (pe_op op_cat (pv 1) (pe_lst (pa_cons pe_str pa_nil))) (pe_lc (own := [("price_here", 3)]) (g := (gName 3)) (tt := tYes) rfl sc_Ring_str.nd (pi_tup (pe_fld (pv 0) rfl)) (blkOk_by (own := [("price_here", 3)]) (N := N_Ring_str) (sc := defScope s_Ring_str) (by decide +kernel)) (fun _ _ _ _ _ => (pg_name (i := 3) sc_Ring_str.nd rfl (by first | exact Or.inl rfl | exact Or.inr rfl))) (fun _ _ _ _ _ => pts_nil) (fun _ _ _ _ _ => (pe_callTy call_str_int rfl B.str boot_str (pa_cons (pv 3) pa_nil))))))))))
end
end Crx

set_option maxHeartbeats 4000000
namespace Crx
open PySem PySem.Spec PyProof.Rows L2 RZ
section
variable {P : Program} {w : World} {mg : Str → Option Value} {base : Heap} {M : Md} {f : Addr} {fd : FuncData}
abbrev s_parse_ring : Stmt := top 47
theorem sc_parse_ring : FnScope N_parse_ring ["text"] (defScope s_parse_ring) := ⟨rfl, rfl, rfl, by decide +kernel, rfl, by decide +kernel, by decide +kernel⟩
theorem ok_parse_ring (F : FunD M.K "parse_ring" "parse_ring" (defArgs s_parse_ring) (defBody s_parse_ring) (defScope s_parse_ring) [] [] f fd) (B : Bl mg) (G : Gl M mg) (W : Wd M) (C_read_ring : Cal P w M.K mg base "read_ring" 5 ["text"] (sp_read_ring M)) (D_Ring_str : Dun P w M.K mg base M.ring "__str__" 1 (sp_Ring_str M)) :
    FnOk P w M.K mg base CX0 6 f fd ["text"] (sp_parse_ring M) := by
  refine FunD.ok F sc_parse_ring (fun vs H Q E h => by first | (obtain ⟨e, _⟩ := h; subst e; rfl) | (obtain ⟨_, e, _⟩ := h; subst e; rfl) | (obtain ⟨_, _, e, _⟩ := h; subst e; rfl) | (obtain ⟨_, _, _, e, _⟩ := h; subst e; rfl) | (obtain ⟨_, _, _, _, e, _⟩ := h; subst e; rfl) | (obtain ⟨_, _, _, _, _, e, _⟩ := h; subst e; rfl) | (obtain ⟨_, _, _, _, _, _, e, _⟩ := h; subst e; rfl) | (obtain ⟨_, _, _, _, _, _, _, e, _⟩ := h; subst e; rfl) | (obtain ⟨_, _, _, _, _, _, _, _, e, _⟩ := h; subst e; rfl) | (obtain ⟨_, _, _, _, _, _, _, _, _, e, _⟩ := h; subst e; rfl) | (obtain ⟨_, _, _, _, _, _, _, _, _, _, e, _⟩ := h; subst e; rfl) | (obtain ⟨_, _, _, _, _, _, _, _, _, _, _, e, _⟩ := h; subst e; rfl)) (fun cdv A outer s H vs Q E hr h => ⟨t_parse_ring M, PSs.nox ?_, rd_parse_ring  (E := E) h⟩)
  exact (pss_cons (ps_if (pt_not (pt_val (pe_callB call_isi rfl B.isinstance boot_isinstance (pa_cons (pv 0) (pa_cons (pe_ty rfl B.str boot_str) pa_nil))))) (pss_one ps_never) pss_nil)
    (pss_cons (ps_try_thru0 (pss_one (ps_set (i := 1) sc_parse_ring.nd rfl (by first | exact Or.inl rfl | exact Or.inr rfl) (pe_cal C_read_ring (hr.mono (by decide)) (pa_cons (pv 0) pa_nil)))))
    (pss_cons (ps_if (pt_cmpR op_ne (pe_callTy (cr_ownStr D_Ring_str (hr.mono (by decide))) rfl B.str boot_str (pa_cons (pv 1) pa_nil)) (pv 0) (nomark _)) (pss_one ps_never) pss_nil)
    (pss_one (ps_ret (pv 1))))))
end
end Crx

set_option maxHeartbeats 4000000
namespace Crx
open PySem PySem.Spec PyProof.Rows L2 RZ
section
variable {P : Program} {w : World} {mg : Str → Option Value} {base : Heap} {M : Md} {f : Addr} {fd : FuncData}
abbrev s_law_circle : Stmt := top 53
theorem sc_law_circle : FnScope N_law_circle ["_law_source_here", "_law_land_here"] (defScope s_law_circle) := ⟨rfl, rfl, rfl, by decide +kernel, rfl, by decide +kernel, by decide +kernel⟩
theorem ok_law_circle (F : FunD M.K "_law_circle" "_law_circle" (defArgs s_law_circle) (defBody s_law_circle) (defScope s_law_circle) [] [] f fd) (B : Bl mg) (G : Gl M mg) (W : Wd M) (C_law_draw : Cal P w M.K mg base "_law_draw" 1 ["_law_source_here", "_law_size"] (sp_law_draw M)) (C_mk_Ring_1_locks_walls_prices : MkK P w M.K mg base "Ring" M.ring 3 1 ["locks", "walls", "prices"] (sp_Ring_init M) (mk_Ring_1_locks_walls_prices_g M)) (C_parse_ring : Cal P w M.K mg base "parse_ring" 6 ["text"] (sp_parse_ring M)) :
    FnOk P w M.K mg base CX0 7 f fd ["_law_source_here", "_law_land_here"] (sp_law_circle M) := by
  refine FunD.ok F sc_law_circle (fun vs H Q E h => by first | (obtain ⟨e, _⟩ := h; subst e; rfl) | (obtain ⟨_, e, _⟩ := h; subst e; rfl) | (obtain ⟨_, _, e, _⟩ := h; subst e; rfl) | (obtain ⟨_, _, _, e, _⟩ := h; subst e; rfl) | (obtain ⟨_, _, _, _, e, _⟩ := h; subst e; rfl) | (obtain ⟨_, _, _, _, _, e, _⟩ := h; subst e; rfl) | (obtain ⟨_, _, _, _, _, _, e, _⟩ := h; subst e; rfl) | (obtain ⟨_, _, _, _, _, _, _, e, _⟩ := h; subst e; rfl) | (obtain ⟨_, _, _, _, _, _, _, _, e, _⟩ := h; subst e; rfl) | (obtain ⟨_, _, _, _, _, _, _, _, _, e, _⟩ := h; subst e; rfl) | (obtain ⟨_, _, _, _, _, _, _, _, _, _, e, _⟩ := h; subst e; rfl) | (obtain ⟨_, _, _, _, _, _, _, _, _, _, _, e, _⟩ := h; subst e; rfl)) (fun cdv A outer s H vs Q E hr h => ⟨t_law_circle M, PSs.nox ?_, rd_law_circle  (E := E) h⟩)
  exact (pss_cons (ps_asg (pv 1) (pg_lst rfl (pgs_cons (pg_name (i := 2) sc_law_circle.nd rfl (by first | exact Or.inl rfl | exact Or.inr rfl)) (pgs_cons (pg_name (i := 3) sc_law_circle.nd rfl (by first | exact Or.inl rfl | exact Or.inr rfl)) (pgs_cons (pg_name (i := 4) sc_law_circle.nd rfl (by first | exact Or.inl rfl | exact Or.inr rfl)) (pgs_cons (pg_name (i := 5) sc_law_circle.nd rfl (by first | exact Or.inl rfl | exact Or.inr rfl)) pgs_nil))))))
    (pss_cons (ps_if (pt_cmpR op_gt (pe_cal C_law_draw (hr.mono (by decide)) (pa_cons (pv 0) (pa_cons pe_int pa_nil))) pe_int (nomark _)) (pss_one (ps_ret (pe_mkK C_mk_Ring_1_locks_walls_prices (hr.mono (by decide)) (pa_cons (pv 2) pa_nil) (pk_cons (pv 3) (pk_cons (pv 4) (pk_cons (pv 5) pk_nil)))))) pss_nil)
    (pss_cons (ps_set (i := 6) sc_law_circle.nd rfl (by first | exact Or.inl rfl | exact Or.inr rfl) (pe_op op_cat (pe_op op_cat (pe_lst (pa_cons pe_str (pa_cons (pe_callTy call_str_int rfl B.str boot_str (pa_cons (pv 2) pa_nil)) (pa_cons pe_str pa_nil)))) (pe_lc (own := [("_law_spot", 7)]) (g := (gName 7)) (tt := tYes) rfl sc_law_circle.nd (pi_tup (pv 3)) (blkOk_by (own := [("_law_spot", 7)]) (N := N_law_circle) (sc := defScope s_law_circle) (by decide +kernel)) (fun _ _ _ _ _ => (pg_name (i := 7) sc_law_circle.nd rfl (by first | exact Or.inl rfl | exact Or.inr rfl))) (fun _ _ _ _ _ => pts_nil) (fun _ _ _ _ _ => (pe_callTy call_str_int rfl B.str boot_str (pa_cons (pv 7) pa_nil))))) (pe_lst (pa_cons pe_str pa_nil))))
    (pss_cons (ps_set (i := 6) sc_law_circle.nd rfl (by first | exact Or.inl rfl | exact Or.inr rfl) (pe_op op_cat (pe_op op_cat (pe_op op_cat (pv 6) (pe_lc (own := [("_law_spot", 7)]) (g := (gName 7)) (tt := tYes) rfl sc_law_circle.nd (pi_tup (pv 4)) (blkOk_by (own := [("_law_spot", 7)]) (N := N_law_circle) (sc := defScope s_law_circle) (by decide +kernel)) (fun _ _ _ _ _ => (pg_name (i := 7) sc_law_circle.nd rfl (by first | exact Or.inl rfl | exact Or.inr rfl))) (fun _ _ _ _ _ => pts_nil) (fun _ _ _ _ _ => (pe_callTy call_str_int rfl B.str boot_str (pa_cons (pv 7) pa_nil))))) (pe_lst (pa_cons pe_str pa_nil))) (pe_lc (own := [("_law_fee", 8)]) (g := (gName 8)) (tt := tYes) rfl sc_law_circle.nd (pi_tup (pv 5)) (blkOk_by (own := [("_law_fee", 8)]) (N := N_law_circle) (sc := defScope s_law_circle) (by decide +kernel)) (fun _ _ _ _ _ => (pg_name (i := 8) sc_law_circle.nd rfl (by first | exact Or.inl rfl | exact Or.inr rfl))) (fun _ _ _ _ _ => pts_nil) (fun _ _ _ _ _ => (pe_callTy call_str_int rfl B.str boot_str (pa_cons (pv 8) pa_nil))))))
    (pss_one (ps_ret (pe_cal C_parse_ring (hr.mono (by decide)) (pa_cons (pe_join pe_str (pv 6)) pa_nil))))))))
end
end Crx

set_option maxHeartbeats 4000000
namespace Crx
open PySem PySem.Spec PyProof.Rows L2 RZ
section
variable {P : Program} {w : World} {mg : Str → Option Value} {base : Heap} {M : Md} {f : Addr} {fd : FuncData}
abbrev s_law_some : Stmt := top 57
theorem sc_law_some : FnScope N_law_some ["_law_source_here", "_law_orders_here", "_law_most"] (defScope s_law_some) := ⟨rfl, rfl, rfl, by decide +kernel, rfl, by decide +kernel, by decide +kernel⟩
theorem ok_law_some (F : FunD M.K "_law_some" "_law_some" (defArgs s_law_some) (defBody s_law_some) (defScope s_law_some) [] [] f fd) (B : Bl mg) (G : Gl M mg) (W : Wd M) (C_law_draw : Cal P w M.K mg base "_law_draw" 1 ["_law_source_here", "_law_size"] (sp_law_draw M)) :
    FnOk P w M.K mg base CX0 2 f fd ["_law_source_here", "_law_orders_here", "_law_most"] (sp_law_some M) := by
  refine FunD.ok F sc_law_some (fun vs H Q E h => by first | (obtain ⟨e, _⟩ := h; subst e; rfl) | (obtain ⟨_, e, _⟩ := h; subst e; rfl) | (obtain ⟨_, _, e, _⟩ := h; subst e; rfl) | (obtain ⟨_, _, _, e, _⟩ := h; subst e; rfl) | (obtain ⟨_, _, _, _, e, _⟩ := h; subst e; rfl) | (obtain ⟨_, _, _, _, _, e, _⟩ := h; subst e; rfl) | (obtain ⟨_, _, _, _, _, _, e, _⟩ := h; subst e; rfl) | (obtain ⟨_, _, _, _, _, _, _, e, _⟩ := h; subst e; rfl) | (obtain ⟨_, _, _, _, _, _, _, _, e, _⟩ := h; subst e; rfl) | (obtain ⟨_, _, _, _, _, _, _, _, _, e, _⟩ := h; subst e; rfl) | (obtain ⟨_, _, _, _, _, _, _, _, _, _, e, _⟩ := h; subst e; rfl) | (obtain ⟨_, _, _, _, _, _, _, _, _, _, _, e, _⟩ := h; subst e; rfl)) (fun cdv A outer s H vs Q E hr h => ⟨t_law_some M, PSs.nox ?_, rd_law_some  (E := E) h⟩)
  exact (pss_cons (ps_if (pt_cmpR (op_eqD hr.units) (pv 1) (pe_lst pa_nil) (nomark _)) (pss_one (ps_ret (pe_lst pa_nil))) pss_nil)
    (pss_one (ps_ret (pe_lc (own := [("_law_turn", 3)]) (g := (gName 3)) (tt := tYes) rfl sc_law_some.nd (pi_range1 rfl B.range (pa_cons (pe_cal C_law_draw (hr.mono (by decide)) (pa_cons (pv 0) (pa_cons (pe_op op_add (pv 2) pe_int) pa_nil))) pa_nil)) (blkOk_by (own := [("_law_turn", 3)]) (N := N_law_some) (sc := defScope s_law_some) (by decide +kernel)) (fun _ _ _ _ _ => (pg_name (i := 3) sc_law_some.nd rfl (by first | exact Or.inl rfl | exact Or.inr rfl))) (fun _ _ _ _ _ => pts_nil) (fun _ _ _ _ _ => (pe_ix ix_list (pv 1) (pe_cal C_law_draw (hr.mono (by decide)) (pa_cons (pv 0) (pa_cons (pe_callB call_len_seq rfl B.len boot_len (pa_cons (pv 1) pa_nil)) pa_nil))) (fun _ _ => rfl)))))))
end
end Crx

set_option maxHeartbeats 4000000
namespace Crx
open PySem PySem.Spec PyProof.Rows L2 RZ
section
variable {P : Program} {w : World} {mg : Str → Option Value} {base : Heap} {M : Md} {f : Addr} {fd : FuncData}
abbrev s_law_orders : Stmt := top 54
theorem sc_law_orders : FnScope N_law_orders ["_law_land_here"] (defScope s_law_orders) := ⟨rfl, rfl, rfl, by decide +kernel, rfl, by decide +kernel, by decide +kernel⟩
theorem ok_law_orders (F : FunD M.K "_law_orders" "_law_orders" (defArgs s_law_orders) (defBody s_law_orders) (defScope s_law_orders) [] [] f fd) (B : Bl mg) (G : Gl M mg) (W : Wd M) :
    FnOk P w M.K mg base CX0 1 f fd ["_law_land_here"] (sp_law_orders M) := by
  refine FunD.ok F sc_law_orders (fun vs H Q E h => by first | (obtain ⟨e, _⟩ := h; subst e; rfl) | (obtain ⟨_, e, _⟩ := h; subst e; rfl) | (obtain ⟨_, _, e, _⟩ := h; subst e; rfl) | (obtain ⟨_, _, _, e, _⟩ := h; subst e; rfl) | (obtain ⟨_, _, _, _, e, _⟩ := h; subst e; rfl) | (obtain ⟨_, _, _, _, _, e, _⟩ := h; subst e; rfl) | (obtain ⟨_, _, _, _, _, _, e, _⟩ := h; subst e; rfl) | (obtain ⟨_, _, _, _, _, _, _, e, _⟩ := h; subst e; rfl) | (obtain ⟨_, _, _, _, _, _, _, _, e, _⟩ := h; subst e; rfl) | (obtain ⟨_, _, _, _, _, _, _, _, _, e, _⟩ := h; subst e; rfl) | (obtain ⟨_, _, _, _, _, _, _, _, _, _, e, _⟩ := h; subst e; rfl) | (obtain ⟨_, _, _, _, _, _, _, _, _, _, _, e, _⟩ := h; subst e; rfl)) (fun cdv A outer s H vs Q E hr h => ⟨t_law_orders M, PSs.nox ?_, rd_law_orders  (E := E) h⟩)
  exact (pss_cons (ps_par (i := 1) (j := 2) rfl sc_law_orders.nd rfl rfl (by decide) rfl rfl (pa_cons (pe_lst pa_nil) (pa_cons (pe_ix ix_list (pv 0) pe_int (fun _ _ => rfl)) pa_nil)) (by rfl))
    (pss_cons (ps_for PassesOwn.never rfl (pi_range1 rfl B.range (pa_cons (pv 2) pa_nil)) (pg_name (i := 3) sc_law_orders.nd rfl (by first | exact Or.inl rfl | exact Or.inr rfl)) (pss_cons (ps_if (PW.pt (pw_and (pt_cmpR op_notIn_seq (pv 3) (pe_ix ix_list (pv 0) pe_int (fun _ _ => rfl)) rfl) (pw_and1 (pt_cmpR op_notIn_seq (pe_op op_mod (pe_op op_sub (pe_op op_add (pv 3) (pv 2)) pe_int) (pv 2)) (pe_ix ix_list (pv 0) pe_int (fun _ _ => rfl)) rfl)))) (pss_one (ps_expr (pe_bm PySem.F.plainAttrs_list PySem.F.slot_list_append PySem.F.type_list_append mt_append (pv 1) (pa_cons (pe_tup (pa_cons (pv 3) (pa_cons pe_str pa_nil))) pa_nil)))) pss_nil)
    (pss_one (ps_if (PW.pt (pw_and (pt_cmpR op_notIn_seq (pv 3) (pe_ix ix_list (pv 0) pe_int (fun _ _ => rfl)) rfl) (pw_and1 (pt_cmpR op_notIn_seq (pv 3) (pe_ix ix_list (pv 0) pe_int (fun _ _ => rfl)) rfl)))) (pss_one (ps_expr (pe_bm PySem.F.plainAttrs_list PySem.F.slot_list_append PySem.F.type_list_append mt_append (pv 1) (pa_cons (pe_tup (pa_cons (pv 3) (pa_cons pe_str pa_nil))) pa_nil)))) pss_nil))))
    (pss_one (ps_ret (pv 1)))))
end
end Crx

set_option maxHeartbeats 4000000
namespace Crx
open PySem PySem.Spec PyProof.Rows L2 RZ
section
variable {P : Program} {w : World} {mg : Str → Option Value} {base : Heap} {M : Md} {f : Addr} {fd : FuncData}
abbrev s_check_ring : Stmt := top 27
theorem sc_check_ring : FnScope N_check_ring ["ring"] (defScope s_check_ring) := ⟨rfl, rfl, rfl, by decide +kernel, rfl, by decide +kernel, by decide +kernel⟩
theorem ok_check_ring (F : FunD M.K "check_ring" "check_ring" (defArgs s_check_ring) (defBody s_check_ring) (defScope s_check_ring) [] [] f fd) (B : Bl mg) (G : Gl M mg) (W : Wd M) :
    FnOk P w M.K mg base CX0 1 f fd ["ring"] (sp_check_ring M) := by
  refine FunD.ok F sc_check_ring (fun vs H Q E h => by first | (obtain ⟨e, _⟩ := h; subst e; rfl) | (obtain ⟨_, e, _⟩ := h; subst e; rfl) | (obtain ⟨_, _, e, _⟩ := h; subst e; rfl) | (obtain ⟨_, _, _, e, _⟩ := h; subst e; rfl) | (obtain ⟨_, _, _, _, e, _⟩ := h; subst e; rfl) | (obtain ⟨_, _, _, _, _, e, _⟩ := h; subst e; rfl) | (obtain ⟨_, _, _, _, _, _, e, _⟩ := h; subst e; rfl) | (obtain ⟨_, _, _, _, _, _, _, e, _⟩ := h; subst e; rfl) | (obtain ⟨_, _, _, _, _, _, _, _, e, _⟩ := h; subst e; rfl) | (obtain ⟨_, _, _, _, _, _, _, _, _, e, _⟩ := h; subst e; rfl) | (obtain ⟨_, _, _, _, _, _, _, _, _, _, e, _⟩ := h; subst e; rfl) | (obtain ⟨_, _, _, _, _, _, _, _, _, _, _, e, _⟩ := h; subst e; rfl)) (fun cdv A outer s H vs Q E hr h => ⟨t_check_ring M, PSs.nox ?_, rd_check_ring W.I (E := E) h⟩)
  exact (pss_one (ps_if (pt_not (pt_val (pe_callB call_isi rfl B.isinstance boot_isinstance (pa_cons (pv 0) (pa_cons (pe_glob rfl G.gRing rfl) pa_nil))))) (pss_one ps_never) pss_nil))
end
end Crx

set_option maxHeartbeats 4000000
namespace Crx
open PySem PySem.Spec PyProof.Rows L2 RZ
section
variable {P : Program} {w : World} {mg : Str → Option Value} {base : Heap} {M : Md} {f : Addr} {fd : FuncData}
abbrev s_is_content : Stmt := top 29
theorem sc_is_content : FnScope N_is_content ["ring", "value"] (defScope s_is_content) := ⟨rfl, rfl, rfl, by decide +kernel, rfl, by decide +kernel, by decide +kernel⟩
theorem ok_is_content (F : FunD M.K "is_content" "is_content" (defArgs s_is_content) (defBody s_is_content) (defScope s_is_content) [] [] f fd) (B : Bl mg) (G : Gl M mg) (W : Wd M) :
    FnOk P w M.K mg base CX0 1 f fd ["ring", "value"] (sp_is_content M) := by
  refine FunD.ok F sc_is_content (fun vs H Q E h => by first | (obtain ⟨e, _⟩ := h; subst e; rfl) | (obtain ⟨_, e, _⟩ := h; subst e; rfl) | (obtain ⟨_, _, e, _⟩ := h; subst e; rfl) | (obtain ⟨_, _, _, e, _⟩ := h; subst e; rfl) | (obtain ⟨_, _, _, _, e, _⟩ := h; subst e; rfl) | (obtain ⟨_, _, _, _, _, e, _⟩ := h; subst e; rfl) | (obtain ⟨_, _, _, _, _, _, e, _⟩ := h; subst e; rfl) | (obtain ⟨_, _, _, _, _, _, _, e, _⟩ := h; subst e; rfl) | (obtain ⟨_, _, _, _, _, _, _, _, e, _⟩ := h; subst e; rfl) | (obtain ⟨_, _, _, _, _, _, _, _, _, e, _⟩ := h; subst e; rfl) | (obtain ⟨_, _, _, _, _, _, _, _, _, _, e, _⟩ := h; subst e; rfl) | (obtain ⟨_, _, _, _, _, _, _, _, _, _, _, e, _⟩ := h; subst e; rfl)) (fun cdv A outer s H vs Q E hr h => ⟨t_is_content M, PSs.nox ?_, rd_is_content W.CR (E := E) h⟩)
  exact (pss_one (ps_ret (pe_and (pe_callB call_isi rfl B.isinstance boot_isinstance (pa_cons (pv 1) (pa_cons (pe_ty rfl B.str boot_str) pa_nil))) (pe_and (pe_cmpR op_eq (pe_callB call_len_str rfl B.len boot_len (pa_cons (pv 1) pa_nil)) (pe_fld (pv 0) rfl) (nomark _)) (pe_one (pe_callB (cr_all rfl) rfl B.all boot_all (pa_cons (pe_lc (own := [("letter", 2)]) (g := (gName 2)) (tt := tYes) rfl sc_is_content.nd (pi_str (pv 1)) (blkOk_by (own := [("letter", 2)]) (N := N_is_content) (sc := defScope s_is_content) (by decide +kernel)) (fun _ _ _ _ _ => (pg_name (i := 2) sc_is_content.nd rfl (by first | exact Or.inl rfl | exact Or.inr rfl))) (fun _ _ _ _ _ => pts_nil) (fun _ _ _ _ _ => (pe_cmpR op_in_sign (pv 2) (pe_gs rfl G.gLETTERS) rfl))) pa_nil)))))))
end
end Crx

set_option maxHeartbeats 4000000
namespace Crx
open PySem PySem.Spec PyProof.Rows L2 RZ
section
variable {P : Program} {w : World} {mg : Str → Option Value} {base : Heap} {M : Md} {f : Addr} {fd : FuncData}
abbrev s_check_content : Stmt := top 30
theorem sc_check_content : FnScope N_check_content ["ring", "content"] (defScope s_check_content) := ⟨rfl, rfl, rfl, by decide +kernel, rfl, by decide +kernel, by decide +kernel⟩
theorem ok_check_content (F : FunD M.K "check_content" "check_content" (defArgs s_check_content) (defBody s_check_content) (defScope s_check_content) [] [] f fd) (B : Bl mg) (G : Gl M mg) (W : Wd M) (C_is_content : Cal P w M.K mg base "is_content" 1 ["ring", "value"] (sp_is_content M)) :
    FnOk P w M.K mg base CX0 2 f fd ["ring", "content"] (sp_check_content M) := by
  refine FunD.ok F sc_check_content (fun vs H Q E h => by first | (obtain ⟨e, _⟩ := h; subst e; rfl) | (obtain ⟨_, e, _⟩ := h; subst e; rfl) | (obtain ⟨_, _, e, _⟩ := h; subst e; rfl) | (obtain ⟨_, _, _, e, _⟩ := h; subst e; rfl) | (obtain ⟨_, _, _, _, e, _⟩ := h; subst e; rfl) | (obtain ⟨_, _, _, _, _, e, _⟩ := h; subst e; rfl) | (obtain ⟨_, _, _, _, _, _, e, _⟩ := h; subst e; rfl) | (obtain ⟨_, _, _, _, _, _, _, e, _⟩ := h; subst e; rfl) | (obtain ⟨_, _, _, _, _, _, _, _, e, _⟩ := h; subst e; rfl) | (obtain ⟨_, _, _, _, _, _, _, _, _, e, _⟩ := h; subst e; rfl) | (obtain ⟨_, _, _, _, _, _, _, _, _, _, e, _⟩ := h; subst e; rfl) | (obtain ⟨_, _, _, _, _, _, _, _, _, _, _, e, _⟩ := h; subst e; rfl)) (fun cdv A outer s H vs Q E hr h => ⟨t_check_content M, PSs.nox ?_, rd_check_content  (E := E) h⟩)
  exact (pss_one (ps_if (pt_not (pt_val (pe_cal C_is_content (hr.mono (by decide)) (pa_cons (pv 0) (pa_cons (pv 1) pa_nil))))) (pss_one ps_never) pss_nil))
end
end Crx

set_option maxHeartbeats 4000000
namespace Crx
open PySem PySem.Spec PyProof.Rows L2 RZ
section
variable {P : Program} {w : World} {mg : Str → Option Value} {base : Heap} {M : Md} {f : Addr} {fd : FuncData}
abbrev s_Recorder_init : Stmt := inClass (top 40) 0
theorem sc_Recorder_init : FnScope N_Recorder_init ["self", "ring", "content"] (defScope s_Recorder_init) := ⟨rfl, rfl, rfl, by decide +kernel, rfl, by decide +kernel, by decide +kernel⟩
theorem ok_Recorder_init (F : FunD M.K "__init__" "Recorder.__init__" (defArgs s_Recorder_init) (defBody s_Recorder_init) (defScope s_Recorder_init) [] [] f fd) (B : Bl mg) (G : Gl M mg) (W : Wd M) (C_check_ring : Cal P w M.K mg base "check_ring" 1 ["ring"] (sp_check_ring M)) (C_check_content : Cal P w M.K mg base "check_content" 2 ["ring", "content"] (sp_check_content M)) :
    FnOk P w M.K mg base CX0 3 f fd ["self", "ring", "content"] (sp_Recorder_init M) := by
  refine FunD.ok F sc_Recorder_init (fun vs H Q E h => by first | (obtain ⟨e, _⟩ := h; subst e; rfl) | (obtain ⟨_, e, _⟩ := h; subst e; rfl) | (obtain ⟨_, _, e, _⟩ := h; subst e; rfl) | (obtain ⟨_, _, _, e, _⟩ := h; subst e; rfl) | (obtain ⟨_, _, _, _, e, _⟩ := h; subst e; rfl) | (obtain ⟨_, _, _, _, _, e, _⟩ := h; subst e; rfl) | (obtain ⟨_, _, _, _, _, _, e, _⟩ := h; subst e; rfl) | (obtain ⟨_, _, _, _, _, _, _, e, _⟩ := h; subst e; rfl) | (obtain ⟨_, _, _, _, _, _, _, _, e, _⟩ := h; subst e; rfl) | (obtain ⟨_, _, _, _, _, _, _, _, _, e, _⟩ := h; subst e; rfl) | (obtain ⟨_, _, _, _, _, _, _, _, _, _, e, _⟩ := h; subst e; rfl) | (obtain ⟨_, _, _, _, _, _, _, _, _, _, _, e, _⟩ := h; subst e; rfl)) (fun cdv A outer s H vs Q E hr h => ⟨t_Recorder_init M, PSs.nox ?_, rd_Recorder_init W.C W.T.ne (E := E) h⟩)
  exact (pss_cons (ps_expr (pe_cal C_check_ring (hr.mono (by decide)) (pa_cons (pv 1) pa_nil)))
    (pss_cons (ps_expr (pe_cal C_check_content (hr.mono (by decide)) (pa_cons (pv 1) (pa_cons (pv 2) pa_nil))))
    (pss_cons (ps_fld (pv 0) (pv 1) rfl)
    (pss_cons (ps_fld (pv 0) pe_bl rfl)
    (pss_cons (ps_fld (pv 0) pe_int rfl)
    (pss_cons (ps_fld (pv 0) (pv 2) rfl)
    (pss_one (ps_fld (pv 0) (pe_lst pa_nil) rfl))))))))
end
end Crx

set_option maxHeartbeats 4000000
namespace Crx
open PySem PySem.Spec PyProof.Rows L2 RZ
section
variable {P : Program} {w : World} {mg : Str → Option Value} {base : Heap} {M : Md} {f : Addr} {fd : FuncData}
abbrev s_Recorder_len : Stmt := inClass (top 40) 2
theorem sc_Recorder_len : FnScope N_Recorder_len ["self"] (defScope s_Recorder_len) := ⟨rfl, rfl, rfl, by decide +kernel, rfl, by decide +kernel, by decide +kernel⟩
theorem ok_Recorder_len (F : FunD M.K "__len__" "Recorder.__len__" (defArgs s_Recorder_len) (defBody s_Recorder_len) (defScope s_Recorder_len) [] [] f fd) (B : Bl mg) (G : Gl M mg) (W : Wd M) :
    FnOk P w M.K mg base CX0 1 f fd ["self"] (sp_Recorder_len M) := by
  refine FunD.ok F sc_Recorder_len (fun vs H Q E h => by first | (obtain ⟨e, _⟩ := h; subst e; rfl) | (obtain ⟨_, e, _⟩ := h; subst e; rfl) | (obtain ⟨_, _, e, _⟩ := h; subst e; rfl) | (obtain ⟨_, _, _, e, _⟩ := h; subst e; rfl) | (obtain ⟨_, _, _, _, e, _⟩ := h; subst e; rfl) | (obtain ⟨_, _, _, _, _, e, _⟩ := h; subst e; rfl) | (obtain ⟨_, _, _, _, _, _, e, _⟩ := h; subst e; rfl) | (obtain ⟨_, _, _, _, _, _, _, e, _⟩ := h; subst e; rfl) | (obtain ⟨_, _, _, _, _, _, _, _, e, _⟩ := h; subst e; rfl) | (obtain ⟨_, _, _, _, _, _, _, _, _, e, _⟩ := h; subst e; rfl) | (obtain ⟨_, _, _, _, _, _, _, _, _, _, e, _⟩ := h; subst e; rfl) | (obtain ⟨_, _, _, _, _, _, _, _, _, _, _, e, _⟩ := h; subst e; rfl)) (fun cdv A outer s H vs Q E hr h => ⟨t_Recorder_len M, PSs.nox ?_, rd_Recorder_len W.C (E := E) h⟩)
  exact (pss_one (ps_ret (pe_callB call_len_seq rfl B.len boot_len (pa_cons (pe_fld (pv 0) rfl) pa_nil))))
end
end Crx

set_option maxHeartbeats 4000000
namespace Crx
open PySem PySem.Spec PyProof.Rows L2 RZ
section
variable {P : Program} {w : World} {mg : Str → Option Value} {base : Heap} {M : Md} {f : Addr} {fd : FuncData}
abbrev s_Recorder_spent : Stmt := inClass (top 40) 11
theorem sc_Recorder_spent : FnScope N_Recorder_spent ["self"] (defScope s_Recorder_spent) := ⟨rfl, rfl, rfl, by decide +kernel, rfl, by decide +kernel, by decide +kernel⟩
theorem ok_Recorder_spent (F : FunD M.K "spent" "Recorder.spent" (defArgs s_Recorder_spent) (defBody s_Recorder_spent) (defScope s_Recorder_spent) [] [] f fd) (B : Bl mg) (G : Gl M mg) (W : Wd M) :
    FnOk P w M.K mg base CX0 1 f fd ["self"] (sp_Recorder_spent M) := by
  refine FunD.ok F sc_Recorder_spent (fun vs H Q E h => by first | (obtain ⟨e, _⟩ := h; subst e; rfl) | (obtain ⟨_, e, _⟩ := h; subst e; rfl) | (obtain ⟨_, _, e, _⟩ := h; subst e; rfl) | (obtain ⟨_, _, _, e, _⟩ := h; subst e; rfl) | (obtain ⟨_, _, _, _, e, _⟩ := h; subst e; rfl) | (obtain ⟨_, _, _, _, _, e, _⟩ := h; subst e; rfl) | (obtain ⟨_, _, _, _, _, _, e, _⟩ := h; subst e; rfl) | (obtain ⟨_, _, _, _, _, _, _, e, _⟩ := h; subst e; rfl) | (obtain ⟨_, _, _, _, _, _, _, _, e, _⟩ := h; subst e; rfl) | (obtain ⟨_, _, _, _, _, _, _, _, _, e, _⟩ := h; subst e; rfl) | (obtain ⟨_, _, _, _, _, _, _, _, _, _, e, _⟩ := h; subst e; rfl) | (obtain ⟨_, _, _, _, _, _, _, _, _, _, _, e, _⟩ := h; subst e; rfl)) (fun cdv A outer s H vs Q E hr h => ⟨t_Recorder_spent M, PSs.nox ?_, rd_Recorder_spent W.C W.CR (E := E) h⟩)
  exact (pss_one (ps_ret (pe_callB (cr_sum rfl) rfl B.sum boot_sum (pa_cons (pe_lc (own := [("letters", 3), ("place", 1), ("side", 2)]) (g := (gTup M.K 2 (gCons (gTup M.K 2 (gCons (gName 1) (gCons (gName 2) gNil))) (gCons (gName 3) gNil)))) (tt := tYes) rfl sc_Recorder_spent.nd (pi_list (pe_fld (pv 0) rfl)) (blkOk_by (own := [("letters", 3), ("place", 1), ("side", 2)]) (N := N_Recorder_spent) (sc := defScope s_Recorder_spent) (by decide +kernel)) (fun _ _ _ _ _ => (pg_tup rfl (pgs_cons (pg_tup rfl (pgs_cons (pg_name (i := 1) sc_Recorder_spent.nd rfl (by first | exact Or.inl rfl | exact Or.inr rfl)) (pgs_cons (pg_name (i := 2) sc_Recorder_spent.nd rfl (by first | exact Or.inl rfl | exact Or.inr rfl)) pgs_nil))) (pgs_cons (pg_name (i := 3) sc_Recorder_spent.nd rfl (by first | exact Or.inl rfl | exact Or.inr rfl)) pgs_nil)))) (fun _ _ _ _ _ => pts_nil) (fun _ _ _ _ _ => (pe_ix ix_tup (pe_fld (pe_fld (pv 0) rfl) rfl) (pv 1) (fun _ _ => rfl)))) pa_nil))))
end
end Crx

set_option maxHeartbeats 4000000
namespace Crx
open PySem PySem.Spec PyProof.Rows L2 RZ
section
variable {P : Program} {w : World} {mg : Str → Option Value} {base : Heap} {M : Md} {f : Addr} {fd : FuncData}
abbrev s_identity_of : Stmt := top 28
theorem sc_identity_of : FnScope N_identity_of ["ring"] (defScope s_identity_of) := ⟨rfl, rfl, rfl, by decide +kernel, rfl, by decide +kernel, by decide +kernel⟩
theorem ok_identity_of (F : FunD M.K "identity_of" "identity_of" (defArgs s_identity_of) (defBody s_identity_of) (defScope s_identity_of) [] [] f fd) (B : Bl mg) (G : Gl M mg) (W : Wd M) :
    FnOk P w M.K mg base CX0 1 f fd ["ring"] (sp_identity_of M) := by
  refine FunD.ok F sc_identity_of (fun vs H Q E h => by first | (obtain ⟨e, _⟩ := h; subst e; rfl) | (obtain ⟨_, e, _⟩ := h; subst e; rfl) | (obtain ⟨_, _, e, _⟩ := h; subst e; rfl) | (obtain ⟨_, _, _, e, _⟩ := h; subst e; rfl) | (obtain ⟨_, _, _, _, e, _⟩ := h; subst e; rfl) | (obtain ⟨_, _, _, _, _, e, _⟩ := h; subst e; rfl) | (obtain ⟨_, _, _, _, _, _, e, _⟩ := h; subst e; rfl) | (obtain ⟨_, _, _, _, _, _, _, e, _⟩ := h; subst e; rfl) | (obtain ⟨_, _, _, _, _, _, _, _, e, _⟩ := h; subst e; rfl) | (obtain ⟨_, _, _, _, _, _, _, _, _, e, _⟩ := h; subst e; rfl) | (obtain ⟨_, _, _, _, _, _, _, _, _, _, e, _⟩ := h; subst e; rfl) | (obtain ⟨_, _, _, _, _, _, _, _, _, _, _, e, _⟩ := h; subst e; rfl)) (fun cdv A outer s H vs Q E hr h => ⟨t_identity_of M, PSs.nox ?_, rd_identity_of W.CR (E := E) h⟩)
  exact (pss_one (ps_ret (pe_callTy call_tuple_of rfl B.tuple boot_tuple (pa_cons (pe_listRg rfl rfl B.list (prg_1 rfl B.range (pe_fld (pv 0) rfl))) pa_nil))))
end
end Crx

set_option maxHeartbeats 4000000
namespace Crx
open PySem PySem.Spec PyProof.Rows L2 RZ
section
variable {P : Program} {w : World} {mg : Str → Option Value} {base : Heap} {M : Md} {f : Addr} {fd : FuncData}
abbrev s_is_pair : Stmt := top 32
theorem sc_is_pair : FnScope N_is_pair ["part"] (defScope s_is_pair) := ⟨rfl, rfl, rfl, by decide +kernel, rfl, by decide +kernel, by decide +kernel⟩
theorem ok_is_pair (F : FunD M.K "is_pair" "is_pair" (defArgs s_is_pair) (defBody s_is_pair) (defScope s_is_pair) [] [] f fd) (B : Bl mg) (G : Gl M mg) (W : Wd M) :
    FnOk P w M.K mg base CX0 1 f fd ["part"] (sp_is_pair M) := by
  refine FunD.ok F sc_is_pair (fun vs H Q E h => by first | (obtain ⟨e, _⟩ := h; subst e; rfl) | (obtain ⟨_, e, _⟩ := h; subst e; rfl) | (obtain ⟨_, _, e, _⟩ := h; subst e; rfl) | (obtain ⟨_, _, _, e, _⟩ := h; subst e; rfl) | (obtain ⟨_, _, _, _, e, _⟩ := h; subst e; rfl) | (obtain ⟨_, _, _, _, _, e, _⟩ := h; subst e; rfl) | (obtain ⟨_, _, _, _, _, _, e, _⟩ := h; subst e; rfl) | (obtain ⟨_, _, _, _, _, _, _, e, _⟩ := h; subst e; rfl) | (obtain ⟨_, _, _, _, _, _, _, _, e, _⟩ := h; subst e; rfl) | (obtain ⟨_, _, _, _, _, _, _, _, _, e, _⟩ := h; subst e; rfl) | (obtain ⟨_, _, _, _, _, _, _, _, _, _, e, _⟩ := h; subst e; rfl) | (obtain ⟨_, _, _, _, _, _, _, _, _, _, _, e, _⟩ := h; subst e; rfl)) (fun cdv A outer s H vs Q E hr h => ⟨t_is_pair M, PSs.nox ?_, rd_is_pair  (E := E) h⟩)
  exact (pss_one (ps_ret (pe_callB call_isi rfl B.isinstance boot_isinstance (pa_cons (pe_ix ix_tup (pv 0) pe_int (fun _ _ => rfl)) (pa_cons (pe_ty rfl B.tuple boot_tuple) pa_nil)))))
end
end Crx

set_option maxHeartbeats 4000000
namespace Crx
open PySem PySem.Spec PyProof.Rows L2 RZ
section
variable {P : Program} {w : World} {mg : Str → Option Value} {base : Heap} {M : Md} {f : Addr} {fd : FuncData}
abbrev s_after : Stmt := top 34
theorem sc_after : FnScope N_after ["mapping", "instruction", "size"] (defScope s_after) := ⟨rfl, rfl, rfl, by decide +kernel, rfl, by decide +kernel, by decide +kernel⟩
theorem ok_after (F : FunD M.K "after" "after" (defArgs s_after) (defBody s_after) (defScope s_after) [] [] f fd) (B : Bl mg) (G : Gl M mg) (W : Wd M) :
    FnOk P w M.K mg base CX0 1 f fd ["mapping", "instruction", "size"] (sp_after M) := by
  refine FunD.ok F sc_after (fun vs H Q E h => by first | (obtain ⟨e, _⟩ := h; subst e; rfl) | (obtain ⟨_, e, _⟩ := h; subst e; rfl) | (obtain ⟨_, _, e, _⟩ := h; subst e; rfl) | (obtain ⟨_, _, _, e, _⟩ := h; subst e; rfl) | (obtain ⟨_, _, _, _, e, _⟩ := h; subst e; rfl) | (obtain ⟨_, _, _, _, _, e, _⟩ := h; subst e; rfl) | (obtain ⟨_, _, _, _, _, _, e, _⟩ := h; subst e; rfl) | (obtain ⟨_, _, _, _, _, _, _, e, _⟩ := h; subst e; rfl) | (obtain ⟨_, _, _, _, _, _, _, _, e, _⟩ := h; subst e; rfl) | (obtain ⟨_, _, _, _, _, _, _, _, _, e, _⟩ := h; subst e; rfl) | (obtain ⟨_, _, _, _, _, _, _, _, _, _, e, _⟩ := h; subst e; rfl) | (obtain ⟨_, _, _, _, _, _, _, _, _, _, _, e, _⟩ := h; subst e; rfl)) (fun cdv A outer s H vs Q E hr h => ⟨t_after M, PSs.nox ?_, rd_after  (E := E) h⟩)
  exact (pss_cons (ps_asg (pv 1) (pg_tup rfl (pgs_cons (pg_name (i := 3) sc_after.nd rfl (by first | exact Or.inl rfl | exact Or.inr rfl)) (pgs_cons (pg_name (i := 4) sc_after.nd rfl (by first | exact Or.inl rfl | exact Or.inr rfl)) pgs_nil))))
    (pss_cons (ps_set (i := 5) sc_after.nd rfl (by first | exact Or.inl rfl | exact Or.inr rfl) (pe_op op_mod (pe_ifExp (pt_cmpR op_eq (pv 4) (pe_gs rfl G.gLEFT) (nomark _)) (pe_op op_sub (pv 3) pe_int) (pe_op op_add (pv 3) pe_int)) (pv 2)))
    (pss_one (ps_ret (pe_op op_catA (pe_op op_catA (pe_slice sl_tupA (pv 0) po_none (po_some (pv 3))) (pe_tup (pa_cons (pe_ix ix_tup (pv 0) (pv 5) (fun _ _ => rfl)) pa_nil))) (pe_slice sl_tupA (pv 0) (po_some (pe_op op_add (pv 3) pe_int)) po_none))))))
end
end Crx

set_option maxHeartbeats 4000000
namespace Crx
open PySem PySem.Spec PyProof.Rows L2 RZ
section
variable {P : Program} {w : World} {mg : Str → Option Value} {base : Heap} {M : Md} {f : Addr} {fd : FuncData}
abbrev s_effect_of : Stmt := top 37
theorem sc_effect_of : FnScope N_effect_of ["ring", "program"] (defScope s_effect_of) := ⟨rfl, rfl, rfl, by decide +kernel, rfl, by decide +kernel, by decide +kernel⟩
theorem ok_effect_of (F : FunD M.K "effect_of" "effect_of" (defArgs s_effect_of) (defBody s_effect_of) (defScope s_effect_of) [] [] f fd) (B : Bl mg) (G : Gl M mg) (W : Wd M) (C_identity_of : Cal P w M.K mg base "identity_of" 1 ["ring"] (sp_identity_of M)) (C_is_pair : Cal P w M.K mg base "is_pair" 1 ["part"] (sp_is_pair M)) (C_after : Cal P w M.K mg base "after" 1 ["mapping", "instruction", "size"] (sp_after M)) :
    FnOk P w M.K mg base CX0 2 f fd ["ring", "program"] (sp_effect_of M) := by
  refine FunD.ok F sc_effect_of (fun vs H Q E h => by first | (obtain ⟨e, _⟩ := h; subst e; rfl) | (obtain ⟨_, e, _⟩ := h; subst e; rfl) | (obtain ⟨_, _, e, _⟩ := h; subst e; rfl) | (obtain ⟨_, _, _, e, _⟩ := h; subst e; rfl) | (obtain ⟨_, _, _, _, e, _⟩ := h; subst e; rfl) | (obtain ⟨_, _, _, _, _, e, _⟩ := h; subst e; rfl) | (obtain ⟨_, _, _, _, _, _, e, _⟩ := h; subst e; rfl) | (obtain ⟨_, _, _, _, _, _, _, e, _⟩ := h; subst e; rfl) | (obtain ⟨_, _, _, _, _, _, _, _, e, _⟩ := h; subst e; rfl) | (obtain ⟨_, _, _, _, _, _, _, _, _, e, _⟩ := h; subst e; rfl) | (obtain ⟨_, _, _, _, _, _, _, _, _, _, e, _⟩ := h; subst e; rfl) | (obtain ⟨_, _, _, _, _, _, _, _, _, _, _, e, _⟩ := h; subst e; rfl)) (fun cdv A outer s H vs Q E hr h => ⟨t_effect_of M, PSs.nox ?_, rd_effect_of W.CR (E := E) h⟩)
  exact (pss_cons (ps_set (i := 2) sc_effect_of.nd rfl (by first | exact Or.inl rfl | exact Or.inr rfl) (pe_cal C_identity_of (hr.mono (by decide)) (pa_cons (pv 0) pa_nil)))
    (pss_cons (ps_for PassesOwn.never rfl (pi_tup (pv 1)) (pg_name (i := 3) sc_effect_of.nd rfl (by first | exact Or.inl rfl | exact Or.inr rfl)) (pss_one (ps_if (pt_val (pe_cal C_is_pair (hr.mono (by decide)) (pa_cons (pv 3) pa_nil))) (pss_one ps_never) (pss_one (ps_set (i := 2) sc_effect_of.nd rfl (by first | exact Or.inl rfl | exact Or.inr rfl) (pe_cal C_after (hr.mono (by decide)) (pa_cons (pv 2) (pa_cons (pv 3) (pa_cons (pe_fld (pv 0) rfl) pa_nil)))))))))
    (pss_one (ps_ret (pv 2)))))
end
end Crx

set_option maxHeartbeats 4000000
namespace Crx
open PySem PySem.Spec PyProof.Rows L2 RZ
section
variable {P : Program} {w : World} {mg : Str → Option Value} {base : Heap} {M : Md} {f : Addr} {fd : FuncData}
abbrev s_Recorder_recorded : Stmt := inClass (top 40) 9
theorem sc_Recorder_recorded : FnScope N_Recorder_recorded ["self"] (defScope s_Recorder_recorded) := ⟨rfl, rfl, rfl, by decide +kernel, rfl, by decide +kernel, by decide +kernel⟩
theorem ok_Recorder_recorded (F : FunD M.K "recorded" "Recorder.recorded" (defArgs s_Recorder_recorded) (defBody s_Recorder_recorded) (defScope s_Recorder_recorded) [] [] f fd) (B : Bl mg) (G : Gl M mg) (W : Wd M) :
    FnOk P w M.K mg base CX0 1 f fd ["self"] (sp_Recorder_recorded M) := by
  refine FunD.ok F sc_Recorder_recorded (fun vs H Q E h => by first | (obtain ⟨e, _⟩ := h; subst e; rfl) | (obtain ⟨_, e, _⟩ := h; subst e; rfl) | (obtain ⟨_, _, e, _⟩ := h; subst e; rfl) | (obtain ⟨_, _, _, e, _⟩ := h; subst e; rfl) | (obtain ⟨_, _, _, _, e, _⟩ := h; subst e; rfl) | (obtain ⟨_, _, _, _, _, e, _⟩ := h; subst e; rfl) | (obtain ⟨_, _, _, _, _, _, e, _⟩ := h; subst e; rfl) | (obtain ⟨_, _, _, _, _, _, _, e, _⟩ := h; subst e; rfl) | (obtain ⟨_, _, _, _, _, _, _, _, e, _⟩ := h; subst e; rfl) | (obtain ⟨_, _, _, _, _, _, _, _, _, e, _⟩ := h; subst e; rfl) | (obtain ⟨_, _, _, _, _, _, _, _, _, _, e, _⟩ := h; subst e; rfl) | (obtain ⟨_, _, _, _, _, _, _, _, _, _, _, e, _⟩ := h; subst e; rfl)) (fun cdv A outer s H vs Q E hr h => ⟨t_Recorder_recorded M, PSs.nox ?_, rd_Recorder_recorded W.C (E := E) h⟩)
  exact (pss_one (ps_ret (pe_callTy call_tuple_of rfl B.tuple boot_tuple (pa_cons (pe_lc (own := [("instruction", 1), ("letters", 2)]) (g := (gTup M.K 2 (gCons (gName 1) (gCons (gName 2) gNil)))) (tt := tYes) rfl sc_Recorder_recorded.nd (pi_list (pe_fld (pv 0) rfl)) (blkOk_by (own := [("instruction", 1), ("letters", 2)]) (N := N_Recorder_recorded) (sc := defScope s_Recorder_recorded) (by decide +kernel)) (fun _ _ _ _ _ => (pg_tup rfl (pgs_cons (pg_name (i := 1) sc_Recorder_recorded.nd rfl (by first | exact Or.inl rfl | exact Or.inr rfl)) (pgs_cons (pg_name (i := 2) sc_Recorder_recorded.nd rfl (by first | exact Or.inl rfl | exact Or.inr rfl)) pgs_nil)))) (fun _ _ _ _ _ => pts_nil) (fun _ _ _ _ _ => (pv 1))) pa_nil))))
end
end Crx

set_option maxHeartbeats 4000000
namespace Crx
open PySem PySem.Spec PyProof.Rows L2 RZ
section
variable {P : Program} {w : World} {mg : Str → Option Value} {base : Heap} {M : Md} {f : Addr} {fd : FuncData}
abbrev s_Recorder_sources : Stmt := inClass (top 40) 10
theorem sc_Recorder_sources : FnScope N_Recorder_sources ["self"] (defScope s_Recorder_sources) := ⟨rfl, rfl, rfl, by decide +kernel, rfl, by decide +kernel, by decide +kernel⟩
theorem ok_Recorder_sources (F : FunD M.K "sources" "Recorder.sources" (defArgs s_Recorder_sources) (defBody s_Recorder_sources) (defScope s_Recorder_sources) [] [] f fd) (B : Bl mg) (G : Gl M mg) (W : Wd M) (C_effect_of : Cal P w M.K mg base "effect_of" 2 ["ring", "program"] (sp_effect_of M)) (C_Recorder_recorded : MCal P w M.K mg base M.recd "recorded" 1 ["self"] (sp_Recorder_recorded M)) :
    FnOk P w M.K mg base CX0 3 f fd ["self"] (sp_Recorder_sources M) := by
  refine FunD.ok F sc_Recorder_sources (fun vs H Q E h => by first | (obtain ⟨e, _⟩ := h; subst e; rfl) | (obtain ⟨_, e, _⟩ := h; subst e; rfl) | (obtain ⟨_, _, e, _⟩ := h; subst e; rfl) | (obtain ⟨_, _, _, e, _⟩ := h; subst e; rfl) | (obtain ⟨_, _, _, _, e, _⟩ := h; subst e; rfl) | (obtain ⟨_, _, _, _, _, e, _⟩ := h; subst e; rfl) | (obtain ⟨_, _, _, _, _, _, e, _⟩ := h; subst e; rfl) | (obtain ⟨_, _, _, _, _, _, _, e, _⟩ := h; subst e; rfl) | (obtain ⟨_, _, _, _, _, _, _, _, e, _⟩ := h; subst e; rfl) | (obtain ⟨_, _, _, _, _, _, _, _, _, e, _⟩ := h; subst e; rfl) | (obtain ⟨_, _, _, _, _, _, _, _, _, _, e, _⟩ := h; subst e; rfl) | (obtain ⟨_, _, _, _, _, _, _, _, _, _, _, e, _⟩ := h; subst e; rfl)) (fun cdv A outer s H vs Q E hr h => ⟨t_Recorder_sources M, PSs.nox ?_, rd_Recorder_sources W.C (E := E) h⟩)
  exact (pss_one (ps_ret (pe_cal C_effect_of (hr.mono (by decide)) (pa_cons (pe_fld (pv 0) rfl) (pa_cons (pe_mcal0 C_Recorder_recorded (hr.mono (by decide)) (pv 0)) pa_nil)))))
end
end Crx

set_option maxHeartbeats 4000000
namespace Crx
open PySem PySem.Spec PyProof.Rows L2 RZ
section
variable {P : Program} {w : World} {mg : Str → Option Value} {base : Heap} {M : Md} {f : Addr} {fd : FuncData}
abbrev s_Recorder_held : Stmt := inClass (top 40) 8
theorem sc_Recorder_held : FnScope N_Recorder_held ["self"] (defScope s_Recorder_held) := ⟨rfl, rfl, rfl, by decide +kernel, rfl, by decide +kernel, by decide +kernel⟩
theorem ok_Recorder_held (F : FunD M.K "held" "Recorder.held" (defArgs s_Recorder_held) (defBody s_Recorder_held) (defScope s_Recorder_held) [] [] f fd) (B : Bl mg) (G : Gl M mg) (W : Wd M) :
    FnOk P w M.K mg base CX0 1 f fd ["self"] (sp_Recorder_held M) := by
  refine FunD.ok F sc_Recorder_held (fun vs H Q E h => by first | (obtain ⟨e, _⟩ := h; subst e; rfl) | (obtain ⟨_, e, _⟩ := h; subst e; rfl) | (obtain ⟨_, _, e, _⟩ := h; subst e; rfl) | (obtain ⟨_, _, _, e, _⟩ := h; subst e; rfl) | (obtain ⟨_, _, _, _, e, _⟩ := h; subst e; rfl) | (obtain ⟨_, _, _, _, _, e, _⟩ := h; subst e; rfl) | (obtain ⟨_, _, _, _, _, _, e, _⟩ := h; subst e; rfl) | (obtain ⟨_, _, _, _, _, _, _, e, _⟩ := h; subst e; rfl) | (obtain ⟨_, _, _, _, _, _, _, _, e, _⟩ := h; subst e; rfl) | (obtain ⟨_, _, _, _, _, _, _, _, _, e, _⟩ := h; subst e; rfl) | (obtain ⟨_, _, _, _, _, _, _, _, _, _, e, _⟩ := h; subst e; rfl) | (obtain ⟨_, _, _, _, _, _, _, _, _, _, _, e, _⟩ := h; subst e; rfl)) (fun cdv A outer s H vs Q E hr h => ⟨t_Recorder_held M, PSs.nox ?_, rd_Recorder_held W.C (E := E) h⟩)
  exact (pss_one (ps_ret (pe_fld (pv 0) rfl)))
end
end Crx

set_option maxHeartbeats 4000000
namespace Crx
open PySem PySem.Spec PyProof.Rows L2 RZ
section
variable {P : Program} {w : World} {mg : Str → Option Value} {base : Heap} {M : Md} {f : Addr} {fd : FuncData}
abbrev s_Recorder_str : Stmt := inClass (top 40) 3
theorem sc_Recorder_str : FnScope N_Recorder_str ["self"] (defScope s_Recorder_str) := ⟨rfl, rfl, rfl, by decide +kernel, rfl, by decide +kernel, by decide +kernel⟩
theorem ok_Recorder_str (F : FunD M.K "__str__" "Recorder.__str__" (defArgs s_Recorder_str) (defBody s_Recorder_str) (defScope s_Recorder_str) [] [] f fd) (B : Bl mg) (G : Gl M mg) (W : Wd M) :
    FnOk P w M.K mg base CX0 1 f fd ["self"] (sp_Recorder_str M) := by
  refine FunD.ok F sc_Recorder_str (fun vs H Q E h => by first | (obtain ⟨e, _⟩ := h; subst e; rfl) | (obtain ⟨_, e, _⟩ := h; subst e; rfl) | (obtain ⟨_, _, e, _⟩ := h; subst e; rfl) | (obtain ⟨_, _, _, e, _⟩ := h; subst e; rfl) | (obtain ⟨_, _, _, _, e, _⟩ := h; subst e; rfl) | (obtain ⟨_, _, _, _, _, e, _⟩ := h; subst e; rfl) | (obtain ⟨_, _, _, _, _, _, e, _⟩ := h; subst e; rfl) | (obtain ⟨_, _, _, _, _, _, _, e, _⟩ := h; subst e; rfl) | (obtain ⟨_, _, _, _, _, _, _, _, e, _⟩ := h; subst e; rfl) | (obtain ⟨_, _, _, _, _, _, _, _, _, e, _⟩ := h; subst e; rfl) | (obtain ⟨_, _, _, _, _, _, _, _, _, _, e, _⟩ := h; subst e; rfl) | (obtain ⟨_, _, _, _, _, _, _, _, _, _, _, e, _⟩ := h; subst e; rfl)) (fun cdv A outer s H vs Q E hr h => ⟨t_Recorder_str M, PSs.nox ?_, rd_Recorder_str W.C W.CR (E := E) h⟩)
  exact (pss_one (ps_ret (pe_joined (PJ.cons (pe_str) (PJ.cons (pe_fmt (pe_fld (pe_fld (pv 0) rfl) rfl)) (PJ.cons (pe_str) (PJ.cons (pe_fmt (pe_callB call_len_seq rfl B.len boot_len (pa_cons (pe_fld (pv 0) rfl) pa_nil))) (PJ.cons (pe_str) PJ.nil))))))))
end
end Crx

set_option maxHeartbeats 4000000
namespace Crx
open PySem PySem.Spec PyProof.Rows L2 RZ
section
variable {P : Program} {w : World} {mg : Str → Option Value} {base : Heap} {M : Md} {f : Addr} {fd : FuncData}
abbrev s_Recorder_repr : Stmt := inClass (top 40) 4
theorem sc_Recorder_repr : FnScope N_Recorder_repr ["self"] (defScope s_Recorder_repr) := ⟨rfl, rfl, rfl, by decide +kernel, rfl, by decide +kernel, by decide +kernel⟩
theorem ok_Recorder_repr (F : FunD M.K "__repr__" "Recorder.__repr__" (defArgs s_Recorder_repr) (defBody s_Recorder_repr) (defScope s_Recorder_repr) [] [] f fd) (B : Bl mg) (G : Gl M mg) (W : Wd M) (D_Recorder_str : Dun P w M.K mg base M.recd "__str__" 1 (sp_Recorder_str M)) :
    FnOk P w M.K mg base CX0 4 f fd ["self"] (sp_Recorder_repr M) := by
  refine FunD.ok F sc_Recorder_repr (fun vs H Q E h => by first | (obtain ⟨e, _⟩ := h; subst e; rfl) | (obtain ⟨_, e, _⟩ := h; subst e; rfl) | (obtain ⟨_, _, e, _⟩ := h; subst e; rfl) | (obtain ⟨_, _, _, e, _⟩ := h; subst e; rfl) | (obtain ⟨_, _, _, _, e, _⟩ := h; subst e; rfl) | (obtain ⟨_, _, _, _, _, e, _⟩ := h; subst e; rfl) | (obtain ⟨_, _, _, _, _, _, e, _⟩ := h; subst e; rfl) | (obtain ⟨_, _, _, _, _, _, _, e, _⟩ := h; subst e; rfl) | (obtain ⟨_, _, _, _, _, _, _, _, e, _⟩ := h; subst e; rfl) | (obtain ⟨_, _, _, _, _, _, _, _, _, e, _⟩ := h; subst e; rfl) | (obtain ⟨_, _, _, _, _, _, _, _, _, _, e, _⟩ := h; subst e; rfl) | (obtain ⟨_, _, _, _, _, _, _, _, _, _, _, e, _⟩ := h; subst e; rfl)) (fun cdv A outer s H vs Q E hr h => ⟨t_Recorder_repr M, PSs.nox ?_, rd_Recorder_repr  (E := E) h⟩)
  exact (pss_one (ps_ret (pe_callTy (cr_ownStr D_Recorder_str (hr.mono (by decide))) rfl B.str boot_str (pa_cons (pv 0) pa_nil))))
end
end Crx

set_option maxHeartbeats 4000000
namespace Crx
open PySem PySem.Spec PyProof.Rows L2 RZ
section
variable {P : Program} {w : World} {mg : Str → Option Value} {base : Heap} {M : Md} {f : Addr} {fd : FuncData}
abbrev s_law_state : Stmt := top 58
theorem sc_law_state : FnScope N_law_state ["_law_recorder"] (defScope s_law_state) := ⟨rfl, rfl, rfl, by decide +kernel, rfl, by decide +kernel, by decide +kernel⟩
theorem ok_law_state (F : FunD M.K "_law_state" "_law_state" (defArgs s_law_state) (defBody s_law_state) (defScope s_law_state) [] [] f fd) (B : Bl mg) (G : Gl M mg) (W : Wd M) (D_Recorder_len : Dun P w M.K mg base M.recd "__len__" 1 (sp_Recorder_len M)) (C_Recorder_spent : MCal P w M.K mg base M.recd "spent" 1 ["self"] (sp_Recorder_spent M)) (C_Recorder_sources : MCal P w M.K mg base M.recd "sources" 3 ["self"] (sp_Recorder_sources M)) (C_Recorder_recorded : MCal P w M.K mg base M.recd "recorded" 1 ["self"] (sp_Recorder_recorded M)) (C_Recorder_held : MCal P w M.K mg base M.recd "held" 1 ["self"] (sp_Recorder_held M)) (D_Ring_str : Dun P w M.K mg base M.ring "__str__" 1 (sp_Ring_str M)) (D_Recorder_repr : Dun P w M.K mg base M.recd "__repr__" 4 (sp_Recorder_repr M)) (D_Recorder_str : Dun P w M.K mg base M.recd "__str__" 1 (sp_Recorder_str M)) :
    FnG P w M.K mg base 6 f fd ["_law_recorder"] (sp_law_state M) := by
  refine FunG.ok F sc_law_state (fun vs H Q h => by first | (obtain ⟨e, _⟩ := h; subst e; rfl) | (obtain ⟨_, e, _⟩ := h; subst e; rfl) | (obtain ⟨_, _, e, _⟩ := h; subst e; rfl) | (obtain ⟨_, _, _, e, _⟩ := h; subst e; rfl) | (obtain ⟨_, _, _, _, e, _⟩ := h; subst e; rfl) | (obtain ⟨_, _, _, _, _, e, _⟩ := h; subst e; rfl) | (obtain ⟨_, _, _, _, _, _, e, _⟩ := h; subst e; rfl) | (obtain ⟨_, _, _, _, _, _, _, e, _⟩ := h; subst e; rfl) | (obtain ⟨_, _, _, _, _, _, _, _, e, _⟩ := h; subst e; rfl) | (obtain ⟨_, _, _, _, _, _, _, _, _, e, _⟩ := h; subst e; rfl) | (obtain ⟨_, _, _, _, _, _, _, _, _, _, e, _⟩ := h; subst e; rfl) | (obtain ⟨_, _, _, _, _, _, _, _, _, _, _, e, _⟩ := h; subst e; rfl)) (fun cdv A outer s H vs Q hg hr h => ⟨t_law_state M, PSs.nox ?_, rd_law_state W.C W.CR (E := E0) h⟩)
  exact (pss_cons (ps_set (i := 1) sc_law_state.nd rfl (by first | exact Or.inl rfl | exact Or.inr rfl) (pe_lst (pa_cons (pe_mcal0 C_Recorder_held (hr.mono (by decide)) (pv 0)) (pa_cons (pe_mcal0 C_Recorder_recorded (hr.mono (by decide)) (pv 0)) (pa_cons (pe_mcal0 C_Recorder_sources (hr.mono (by decide)) (pv 0)) (pa_cons (pe_mcal0 C_Recorder_spent (hr.mono (by decide)) (pv 0)) (pa_cons (pe_callB (cr_ownLen D_Recorder_len (hr.mono (by decide))) rfl B.len boot_len (pa_cons (pv 0) pa_nil)) pa_nil)))))))
    (pss_cons (ps_set (i := 1) sc_law_state.nd rfl (by first | exact Or.inl rfl | exact Or.inr rfl) (pe_op op_cat (pv 1) (pe_lst (pa_cons (pe_callTy (cr_ownStr D_Recorder_str (hr.mono (by decide))) rfl B.str boot_str (pa_cons (pv 0) pa_nil)) (pa_cons (pe_callB (cr_ownRepr D_Recorder_repr (hr.mono (by decide))) rfl B.repr boot_repr (pa_cons (pv 0) pa_nil)) (pa_cons (pe_fld (pv 0) rfl) (pa_cons (pe_callTy (cr_ownBool D_Recorder_len W.NB_Recorder spm_Recorder_len (hr.mono (by decide))) rfl B.bool boot_bool (pa_cons (pv 0) pa_nil)) (pa_cons (pe_callTy (cr_ownStr D_Ring_str (hr.mono (by decide))) rfl B.str boot_str (pa_cons (pe_fld (pv 0) rfl) pa_nil)) pa_nil))))))))
    (pss_one (ps_ret (pe_callB (call_reprD hg hr.units) rfl B.repr boot_repr (pa_cons (pv 1) pa_nil))))))
end
end Crx

set_option maxHeartbeats 4000000
namespace Crx
open PySem PySem.Spec PyProof.Rows L2 RZ
section
variable {P : Program} {w : World} {mg : Str → Option Value} {base : Heap} {M : Md} {f : Addr} {fd : FuncData}
abbrev s_law_copied : Stmt := top 55
theorem sc_law_copied : FnScope N_law_copied ["_law_values", "_law_order"] (defScope s_law_copied) := ⟨rfl, rfl, rfl, by decide +kernel, rfl, by decide +kernel, by decide +kernel⟩
theorem ok_law_copied (F : FunD M.K "_law_copied" "_law_copied" (defArgs s_law_copied) (defBody s_law_copied) (defScope s_law_copied) [] [] f fd) (B : Bl mg) (G : Gl M mg) (W : Wd M) :
    FnOk P w M.K mg base CX0 1 f fd ["_law_values", "_law_order"] (sp_law_copied M) := by
  refine FunD.ok F sc_law_copied (fun vs H Q E h => by first | (obtain ⟨e, _⟩ := h; subst e; rfl) | (obtain ⟨_, e, _⟩ := h; subst e; rfl) | (obtain ⟨_, _, e, _⟩ := h; subst e; rfl) | (obtain ⟨_, _, _, e, _⟩ := h; subst e; rfl) | (obtain ⟨_, _, _, _, e, _⟩ := h; subst e; rfl) | (obtain ⟨_, _, _, _, _, e, _⟩ := h; subst e; rfl) | (obtain ⟨_, _, _, _, _, _, e, _⟩ := h; subst e; rfl) | (obtain ⟨_, _, _, _, _, _, _, e, _⟩ := h; subst e; rfl) | (obtain ⟨_, _, _, _, _, _, _, _, e, _⟩ := h; subst e; rfl) | (obtain ⟨_, _, _, _, _, _, _, _, _, e, _⟩ := h; subst e; rfl) | (obtain ⟨_, _, _, _, _, _, _, _, _, _, e, _⟩ := h; subst e; rfl) | (obtain ⟨_, _, _, _, _, _, _, _, _, _, _, e, _⟩ := h; subst e; rfl)) (fun cdv A outer s H vs Q E hr h => ⟨t_law_copied M, PSs.nox ?_, rd_law_copied  (E := E) h⟩)
  exact (pss_cons (ps_par (i := 2) (j := 3) rfl sc_law_copied.nd rfl rfl (by decide) rfl rfl (pa_cons (pe_ix ix_tup (pv 1) pe_int (fun _ _ => rfl)) (pa_cons (pe_callB call_len_seq rfl B.len boot_len (pa_cons (pv 0) pa_nil)) pa_nil)) (by rfl))
    (pss_cons (ps_set (i := 4) sc_law_copied.nd rfl (by first | exact Or.inl rfl | exact Or.inr rfl) (pe_ifExp (pt_cmpR op_eq (pe_ix ix_tup (pv 1) pe_int (fun _ _ => rfl)) pe_str (nomark _)) (pe_ix ix_tup (pv 0) (pe_op op_mod (pe_op op_sub (pe_op op_add (pv 2) (pv 3)) pe_int) (pv 3)) (fun _ _ => rfl)) (pe_ix ix_tup (pv 0) (pe_op op_mod (pe_op op_add (pv 2) pe_int) (pv 3)) (fun _ _ => rfl))))
    (pss_one (ps_ret (pe_op op_catA (pe_op op_catA (pe_slice sl_tupA (pv 0) po_none (po_some (pv 2))) (pe_tup (pa_cons (pv 4) pa_nil))) (pe_slice sl_tupA (pv 0) (po_some (pe_op op_add (pv 2) pe_int)) po_none))))))
end
end Crx

set_option maxHeartbeats 4000000
namespace Crx
open PySem PySem.Spec PyProof.Rows L2 RZ
section
variable {P : Program} {w : World} {mg : Str → Option Value} {base : Heap} {M : Md} {f : Addr} {fd : FuncData}
abbrev s_law_due : Stmt := top 59
theorem sc_law_due : FnScope N_law_due ["_law_land_here", "_law_circle_here", "_law_first", "_law_done"] (defScope s_law_due) := ⟨rfl, rfl, rfl, by decide +kernel, rfl, by decide +kernel, by decide +kernel⟩
theorem ok_law_due (F : FunD M.K "_law_due" "_law_due" (defArgs s_law_due) (defBody s_law_due) (defScope s_law_due) [] [] f fd) (B : Bl mg) (G : Gl M mg) (W : Wd M) (C_law_copied : Cal P w M.K mg base "_law_copied" 1 ["_law_values", "_law_order"] (sp_law_copied M)) (D_Ring_str : Dun P w M.K mg base M.ring "__str__" 1 (sp_Ring_str M)) :
    FnG P w M.K mg base 4 f fd ["_law_land_here", "_law_circle_here", "_law_first", "_law_done"] (sp_law_due M) := by
  refine FunG.ok F sc_law_due (fun vs H Q h => by first | (obtain ⟨e, _⟩ := h; subst e; rfl) | (obtain ⟨_, e, _⟩ := h; subst e; rfl) | (obtain ⟨_, _, e, _⟩ := h; subst e; rfl) | (obtain ⟨_, _, _, e, _⟩ := h; subst e; rfl) | (obtain ⟨_, _, _, _, e, _⟩ := h; subst e; rfl) | (obtain ⟨_, _, _, _, _, e, _⟩ := h; subst e; rfl) | (obtain ⟨_, _, _, _, _, _, e, _⟩ := h; subst e; rfl) | (obtain ⟨_, _, _, _, _, _, _, e, _⟩ := h; subst e; rfl) | (obtain ⟨_, _, _, _, _, _, _, _, e, _⟩ := h; subst e; rfl) | (obtain ⟨_, _, _, _, _, _, _, _, _, e, _⟩ := h; subst e; rfl) | (obtain ⟨_, _, _, _, _, _, _, _, _, _, e, _⟩ := h; subst e; rfl) | (obtain ⟨_, _, _, _, _, _, _, _, _, _, _, e, _⟩ := h; subst e; rfl)) (fun cdv A outer s H vs Q hg hr h => ⟨t_law_due M, PSs.nox ?_, rd_law_due  (E := E0) h⟩)
  exact (pss_cons (ps_par3 (i := 4) (j := 5) (l := 6) rfl sc_law_due.nd rfl rfl rfl (by decide) (by decide) (by decide) rfl rfl rfl (pa_cons (pe_callTy (cr_tupleS hr.hd) rfl B.tuple boot_tuple (pa_cons (pv 2) pa_nil)) (pa_cons (pe_tupRg rfl rfl B.tuple (prg_1 rfl B.range (pe_ix ix_list (pv 0) pe_int (fun _ _ => rfl)))) (pa_cons pe_int pa_nil))) (by rfl))
    (pss_cons (ps_for PassesOwn.never rfl (pi_list (pv 3)) (pg_name (i := 7) sc_law_due.nd rfl (by first | exact Or.inl rfl | exact Or.inr rfl)) (pss_one (ps_par3 (i := 4) (j := 5) (l := 6) rfl sc_law_due.nd rfl rfl rfl (by decide) (by decide) (by decide) rfl rfl rfl (pa_cons (pe_cal C_law_copied (hr.mono (by decide)) (pa_cons (pv 4) (pa_cons (pv 7) pa_nil))) (pa_cons (pe_cal C_law_copied (hr.mono (by decide)) (pa_cons (pv 5) (pa_cons (pv 7) pa_nil))) (pa_cons (pe_op op_add (pv 6) (pe_ix ix_tup (pe_ix ix_list (pv 0) pe_int (fun _ _ => rfl)) (pe_ix ix_tup (pv 7) pe_int (fun _ _ => rfl)) (fun _ _ => rfl))) pa_nil))) (by rfl))))
    (pss_cons (ps_set (i := 8) sc_law_due.nd rfl (by first | exact Or.inl rfl | exact Or.inr rfl) (pe_op op_add_str (pe_op op_add_str (pe_op op_add_str (pe_op op_add_str pe_str (pe_callTy call_str_int rfl B.str boot_str (pa_cons (pe_ix ix_list (pv 0) pe_int (fun _ _ => rfl)) pa_nil))) pe_str) (pe_callTy call_str_int rfl B.str boot_str (pa_cons (pe_callB call_len_seq rfl B.len boot_len (pa_cons (pv 3) pa_nil)) pa_nil))) pe_str))
    (pss_cons (ps_set (i := 9) sc_law_due.nd rfl (by first | exact Or.inl rfl | exact Or.inr rfl) (pe_lst (pa_cons (pe_join pe_str (pv 4)) (pa_cons (pe_callTy call_tuple_of rfl B.tuple boot_tuple (pa_cons (pv 3) pa_nil)) (pa_cons (pv 5) (pa_cons (pv 6) (pa_cons (pe_callB call_len_seq rfl B.len boot_len (pa_cons (pv 3) pa_nil)) pa_nil)))))))
    (pss_one (ps_ret (pe_callB (call_reprD hg hr.units) rfl B.repr boot_repr (pa_cons (pe_op op_cat (pv 9) (pe_lst (pa_cons (pv 8) (pa_cons (pv 8) (pa_cons pe_bl (pa_cons (pe_cmpR (op_neD hr.units) (pv 3) (pe_lst pa_nil) (nomark _)) (pa_cons (pe_callTy (cr_ownStr D_Ring_str (hr.mono (by decide))) rfl B.str boot_str (pa_cons (pv 1) pa_nil)) pa_nil))))))) pa_nil))))))))
end
end Crx

set_option maxHeartbeats 4000000
namespace Crx
open PySem PySem.Spec PyProof.Rows L2 RZ
section
variable {P : Program} {w : World} {mg : Str → Option Value} {base : Heap} {M : Md} {f : Addr} {fd : FuncData}
abbrev s_Ring_allows : Stmt := inClass (top 25) 4
theorem sc_Ring_allows : FnScope N_Ring_allows ["self", "value"] (defScope s_Ring_allows) := ⟨rfl, rfl, rfl, by decide +kernel, rfl, by decide +kernel, by decide +kernel⟩
theorem ok_Ring_allows (F : FunD M.K "allows" "Ring.allows" (defArgs s_Ring_allows) (defBody s_Ring_allows) (defScope s_Ring_allows) [] [] f fd) (B : Bl mg) (G : Gl M mg) (W : Wd M) (C_is_integer : Cal P w M.K mg base "is_integer" 1 ["value", "low", "high"] (sp_is_integer M)) :
    FnOk P w M.K mg base CX0 2 f fd ["self", "value"] (sp_Ring_allows M) := by
  refine FunD.ok F sc_Ring_allows (fun vs H Q E h => by first | (obtain ⟨e, _⟩ := h; subst e; rfl) | (obtain ⟨_, e, _⟩ := h; subst e; rfl) | (obtain ⟨_, _, e, _⟩ := h; subst e; rfl) | (obtain ⟨_, _, _, e, _⟩ := h; subst e; rfl) | (obtain ⟨_, _, _, _, e, _⟩ := h; subst e; rfl) | (obtain ⟨_, _, _, _, _, e, _⟩ := h; subst e; rfl) | (obtain ⟨_, _, _, _, _, _, e, _⟩ := h; subst e; rfl) | (obtain ⟨_, _, _, _, _, _, _, e, _⟩ := h; subst e; rfl) | (obtain ⟨_, _, _, _, _, _, _, _, e, _⟩ := h; subst e; rfl) | (obtain ⟨_, _, _, _, _, _, _, _, _, e, _⟩ := h; subst e; rfl) | (obtain ⟨_, _, _, _, _, _, _, _, _, _, e, _⟩ := h; subst e; rfl) | (obtain ⟨_, _, _, _, _, _, _, _, _, _, _, e, _⟩ := h; subst e; rfl)) (fun cdv A outer s H vs Q E hr h => ⟨t_Ring_allows M, PSs.nox ?_, rd_Ring_allows W.CR (E := E) h⟩)
  exact (pss_cons (ps_if (PW.pt (pw_or (pt_not (pt_val (pe_callB call_isi rfl B.isinstance boot_isinstance (pa_cons (pv 1) (pa_cons (pe_ty rfl B.tuple boot_tuple) pa_nil))))) (pw_or (pt_cmpR op_ne (pe_callB call_len_seq rfl B.len boot_len (pa_cons (pv 1) pa_nil)) pe_int (nomark _)) (pw_or1 (pt_not (pt_val (pe_cal C_is_integer (hr.mono (by decide)) (pa_cons (pe_ix ix_tup (pv 1) pe_int (fun _ _ => rfl)) (pa_cons pe_int (pa_cons (pe_op op_sub (pe_fld (pv 0) rfl) pe_int) pa_nil)))))))))) (pss_one (ps_ret pe_bl)) pss_nil)
    (pss_cons (ps_asg (pv 1) (pg_tup rfl (pgs_cons (pg_name (i := 2) sc_Ring_allows.nd rfl (by first | exact Or.inl rfl | exact Or.inr rfl)) (pgs_cons (pg_name (i := 3) sc_Ring_allows.nd rfl (by first | exact Or.inl rfl | exact Or.inr rfl)) pgs_nil))))
    (pss_cons (ps_if (PW.pt (pw_or (pt_not (pt_val (pe_callB call_isi rfl B.isinstance boot_isinstance (pa_cons (pv 3) (pa_cons (pe_ty rfl B.str boot_str) pa_nil))))) (pw_or (pt_cmpR op_notIn_seq (pv 3) (pe_tup (pa_cons (pe_gs rfl G.gLEFT) (pa_cons (pe_gs rfl G.gRIGHT) pa_nil))) rfl) (pw_or1 (pt_cmpR op_in_seq (pv 2) (pe_fld (pv 0) rfl) rfl))))) (pss_one (ps_ret pe_bl)) pss_nil)
    (pss_cons (ps_set (i := 4) sc_Ring_allows.nd rfl (by first | exact Or.inl rfl | exact Or.inr rfl) (pe_ifExp (pt_cmpR op_eq (pv 3) (pe_gs rfl G.gRIGHT) (nomark _)) (pv 2) (pe_op op_mod (pe_op op_sub (pv 2) pe_int) (pe_fld (pv 0) rfl))))
    (pss_one (ps_ret (pe_cmpR op_notIn_seq (pv 4) (pe_fld (pv 0) rfl) rfl)))))))
end
end Crx

set_option maxHeartbeats 4000000
namespace Crx
open PySem PySem.Spec PyProof.Rows L2 RZ
section
variable {P : Program} {w : World} {mg : Str → Option Value} {base : Heap} {M : Md} {f : Addr} {fd : FuncData}
abbrev s_letters_of : Stmt := top 38
theorem sc_letters_of : FnScope N_letters_of ["mapping", "content"] (defScope s_letters_of) := ⟨rfl, rfl, rfl, by decide +kernel, rfl, by decide +kernel, by decide +kernel⟩
theorem ok_letters_of (F : FunD M.K "letters_of" "letters_of" (defArgs s_letters_of) (defBody s_letters_of) (defScope s_letters_of) [] [] f fd) (B : Bl mg) (G : Gl M mg) (W : Wd M) :
    FnOk P w M.K mg base CX0 1 f fd ["mapping", "content"] (sp_letters_of M) := by
  refine FunD.ok F sc_letters_of (fun vs H Q E h => by first | (obtain ⟨e, _⟩ := h; subst e; rfl) | (obtain ⟨_, e, _⟩ := h; subst e; rfl) | (obtain ⟨_, _, e, _⟩ := h; subst e; rfl) | (obtain ⟨_, _, _, e, _⟩ := h; subst e; rfl) | (obtain ⟨_, _, _, _, e, _⟩ := h; subst e; rfl) | (obtain ⟨_, _, _, _, _, e, _⟩ := h; subst e; rfl) | (obtain ⟨_, _, _, _, _, _, e, _⟩ := h; subst e; rfl) | (obtain ⟨_, _, _, _, _, _, _, e, _⟩ := h; subst e; rfl) | (obtain ⟨_, _, _, _, _, _, _, _, e, _⟩ := h; subst e; rfl) | (obtain ⟨_, _, _, _, _, _, _, _, _, e, _⟩ := h; subst e; rfl) | (obtain ⟨_, _, _, _, _, _, _, _, _, _, e, _⟩ := h; subst e; rfl) | (obtain ⟨_, _, _, _, _, _, _, _, _, _, _, e, _⟩ := h; subst e; rfl)) (fun cdv A outer s H vs Q E hr h => ⟨t_letters_of M, PSs.nox ?_, rd_letters_of  (E := E) h⟩)
  exact (pss_one (ps_ret (pe_join pe_str (pe_lc (own := [("place", 2)]) (g := (gName 2)) (tt := tYes) rfl sc_letters_of.nd (pi_tup (pv 0)) (blkOk_by (own := [("place", 2)]) (N := N_letters_of) (sc := defScope s_letters_of) (by decide +kernel)) (fun _ _ _ _ _ => (pg_name (i := 2) sc_letters_of.nd rfl (by first | exact Or.inl rfl | exact Or.inr rfl))) (fun _ _ _ _ _ => pts_nil) (fun _ _ _ _ _ => (pe_ix ix_str (pv 1) (pv 2) (fun _ _ => rfl)))))))
end
end Crx

set_option maxHeartbeats 4000000
namespace Crx
open PySem PySem.Spec PyProof.Rows L2 RZ
section
variable {P : Program} {w : World} {mg : Str → Option Value} {base : Heap} {M : Md} {f : Addr} {fd : FuncData}
abbrev s_Recorder_write : Stmt := inClass (top 40) 5
theorem sc_Recorder_write : FnScope N_Recorder_write ["self", "instruction"] (defScope s_Recorder_write) := ⟨rfl, rfl, rfl, by decide +kernel, rfl, by decide +kernel, by decide +kernel⟩
theorem ok_Recorder_write (F : FunD M.K "write" "Recorder.write" (defArgs s_Recorder_write) (defBody s_Recorder_write) (defScope s_Recorder_write) [] [] f fd) (B : Bl mg) (G : Gl M mg) (W : Wd M) (C_Ring_allows : MCal P w M.K mg base M.ring "allows" 2 ["self", "value"] (sp_Ring_allows M)) (C_letters_of : Cal P w M.K mg base "letters_of" 1 ["mapping", "content"] (sp_letters_of M)) (C_after : Cal P w M.K mg base "after" 1 ["mapping", "instruction", "size"] (sp_after M)) (C_identity_of : Cal P w M.K mg base "identity_of" 1 ["ring"] (sp_identity_of M)) :
    FnOk P w M.K mg base CX0 3 f fd ["self", "instruction"] (sp_Recorder_write M) := by
  refine FunD.ok F sc_Recorder_write (fun vs H Q E h => by first | (obtain ⟨e, _⟩ := h; subst e; rfl) | (obtain ⟨_, e, _⟩ := h; subst e; rfl) | (obtain ⟨_, _, e, _⟩ := h; subst e; rfl) | (obtain ⟨_, _, _, e, _⟩ := h; subst e; rfl) | (obtain ⟨_, _, _, _, e, _⟩ := h; subst e; rfl) | (obtain ⟨_, _, _, _, _, e, _⟩ := h; subst e; rfl) | (obtain ⟨_, _, _, _, _, _, e, _⟩ := h; subst e; rfl) | (obtain ⟨_, _, _, _, _, _, _, e, _⟩ := h; subst e; rfl) | (obtain ⟨_, _, _, _, _, _, _, _, e, _⟩ := h; subst e; rfl) | (obtain ⟨_, _, _, _, _, _, _, _, _, e, _⟩ := h; subst e; rfl) | (obtain ⟨_, _, _, _, _, _, _, _, _, _, e, _⟩ := h; subst e; rfl) | (obtain ⟨_, _, _, _, _, _, _, _, _, _, _, e, _⟩ := h; subst e; rfl)) (fun cdv A outer s H vs Q E hr h => ⟨t_Recorder_write M, PSs.nox ?_, rd_Recorder_write W.C W.CR W.T.ne (E := E) h⟩)
  exact (pss_cons (ps_if (pt_not (pt_val (pe_mcal C_Ring_allows (hr.mono (by decide)) (pe_fld (pv 0) rfl) (pa_cons (pv 1) pa_nil)))) (pss_one ps_never) pss_nil)
    (pss_cons (ps_if (pt_cmpR op_ge (pe_callB call_len_seq rfl B.len boot_len (pa_cons (pe_fld (pv 0) rfl) pa_nil)) (pe_gi rfl G.gMAX_RECORDS) (nomark _)) (pss_one ps_never) pss_nil)
    (pss_cons (ps_expr (pe_bm PySem.F.plainAttrs_list PySem.F.slot_list_append PySem.F.type_list_append mt_append (pe_fld (pv 0) rfl) (pa_cons (pe_tup (pa_cons (pv 1) (pa_cons (pe_fld (pv 0) rfl) pa_nil))) pa_nil)))
    (pss_one (ps_fld (pv 0) (pe_cal C_letters_of (hr.mono (by decide)) (pa_cons (pe_cal C_after (hr.mono (by decide)) (pa_cons (pe_cal C_identity_of (hr.mono (by decide)) (pa_cons (pe_fld (pv 0) rfl) pa_nil)) (pa_cons (pv 1) (pa_cons (pe_fld (pe_fld (pv 0) rfl) rfl) pa_nil)))) (pa_cons (pe_fld (pv 0) rfl) pa_nil))) rfl)))))
end
end Crx

set_option maxHeartbeats 4000000
namespace Crx
open PySem PySem.Spec PyProof.Rows L2 RZ
section
variable {P : Program} {w : World} {mg : Str → Option Value} {base : Heap} {M : Md} {f : Addr} {fd : FuncData}
abbrev s_Ring_eq : Stmt := inClass (top 25) 1
theorem sc_Ring_eq : FnScope N_Ring_eq ["self", "other"] (defScope s_Ring_eq) := ⟨rfl, rfl, rfl, by decide +kernel, rfl, by decide +kernel, by decide +kernel⟩
theorem ok_Ring_eq (F : FunD M.K "__eq__" "Ring.__eq__" (defArgs s_Ring_eq) (defBody s_Ring_eq) (defScope s_Ring_eq) [] [] f fd) (B : Bl mg) (G : Gl M mg) (W : Wd M) :
    FnOk P w M.K mg base CX0 1 f fd ["self", "other"] (sp_Ring_eq M) := by
  refine FunD.ok F sc_Ring_eq (fun vs H Q E h => by first | (obtain ⟨e, _⟩ := h; subst e; rfl) | (obtain ⟨_, e, _⟩ := h; subst e; rfl) | (obtain ⟨_, _, e, _⟩ := h; subst e; rfl) | (obtain ⟨_, _, _, e, _⟩ := h; subst e; rfl) | (obtain ⟨_, _, _, _, e, _⟩ := h; subst e; rfl) | (obtain ⟨_, _, _, _, _, e, _⟩ := h; subst e; rfl) | (obtain ⟨_, _, _, _, _, _, e, _⟩ := h; subst e; rfl) | (obtain ⟨_, _, _, _, _, _, _, e, _⟩ := h; subst e; rfl) | (obtain ⟨_, _, _, _, _, _, _, _, e, _⟩ := h; subst e; rfl) | (obtain ⟨_, _, _, _, _, _, _, _, _, e, _⟩ := h; subst e; rfl) | (obtain ⟨_, _, _, _, _, _, _, _, _, _, e, _⟩ := h; subst e; rfl) | (obtain ⟨_, _, _, _, _, _, _, _, _, _, _, e, _⟩ := h; subst e; rfl)) (fun cdv A outer s H vs Q E hr h => ⟨t_Ring_eq M, PSs.nox ?_, rd_Ring_eq W.CR W.I (E := E) h⟩)
  exact (pss_cons (ps_if (PW.pt (pw_or (pt_not (pt_val (pe_callB call_isi rfl B.isinstance boot_isinstance (pa_cons (pv 1) (pa_cons (pe_glob rfl G.gRing rfl) pa_nil))))) (pw_or (pt_cmpR op_ne (pe_fld (pv 0) rfl) (pe_fld (pv 1) rfl) (nomark _)) (pw_or1 (pt_cmpR (op_neD hr.units) (pe_fld (pv 0) rfl) (pe_fld (pv 1) rfl) (nomark _)))))) (pss_one (ps_ret pe_bl)) pss_nil)
    (pss_one (ps_ret (pe_and (pe_cmpR (op_eqD hr.units) (pe_fld (pv 0) rfl) (pe_fld (pv 1) rfl) (nomark _)) (pe_one (pe_cmpR (op_eqD hr.units) (pe_fld (pv 0) rfl) (pe_fld (pv 1) rfl) (nomark _)))))))
end
end Crx

set_option maxHeartbeats 4000000
namespace Crx
open PySem PySem.Spec PyProof.Rows L2 RZ
section
variable {P : Program} {w : World} {mg : Str → Option Value} {base : Heap} {M : Md} {f : Addr} {fd : FuncData}
abbrev s_Recorder_eq : Stmt := inClass (top 40) 1
theorem sc_Recorder_eq : FnScope N_Recorder_eq ["self", "other"] (defScope s_Recorder_eq) := ⟨rfl, rfl, rfl, by decide +kernel, rfl, by decide +kernel, by decide +kernel⟩
theorem ok_Recorder_eq (F : FunD M.K "__eq__" "Recorder.__eq__" (defArgs s_Recorder_eq) (defBody s_Recorder_eq) (defScope s_Recorder_eq) [] [] f fd) (B : Bl mg) (G : Gl M mg) (W : Wd M) (D_Ring_eq : Dun P w M.K mg base M.ring "__eq__" 1 (sp_Ring_eq M)) :
    FnOk P w M.K mg base CX0 3 f fd ["self", "other"] (sp_Recorder_eq M) := by
  refine FunD.ok F sc_Recorder_eq (fun vs H Q E h => by first | (obtain ⟨e, _⟩ := h; subst e; rfl) | (obtain ⟨_, e, _⟩ := h; subst e; rfl) | (obtain ⟨_, _, e, _⟩ := h; subst e; rfl) | (obtain ⟨_, _, _, e, _⟩ := h; subst e; rfl) | (obtain ⟨_, _, _, _, e, _⟩ := h; subst e; rfl) | (obtain ⟨_, _, _, _, _, e, _⟩ := h; subst e; rfl) | (obtain ⟨_, _, _, _, _, _, e, _⟩ := h; subst e; rfl) | (obtain ⟨_, _, _, _, _, _, _, e, _⟩ := h; subst e; rfl) | (obtain ⟨_, _, _, _, _, _, _, _, e, _⟩ := h; subst e; rfl) | (obtain ⟨_, _, _, _, _, _, _, _, _, e, _⟩ := h; subst e; rfl) | (obtain ⟨_, _, _, _, _, _, _, _, _, _, e, _⟩ := h; subst e; rfl) | (obtain ⟨_, _, _, _, _, _, _, _, _, _, _, e, _⟩ := h; subst e; rfl)) (fun cdv A outer s H vs Q E hr h => ⟨t_Recorder_eq M, PSs.nox ?_, rd_Recorder_eq W.C W.I W.J (E := E) h⟩)
  exact (pss_one (ps_ret (pe_and (pe_callB call_isi rfl B.isinstance boot_isinstance (pa_cons (pv 1) (pa_cons (pe_glob rfl G.gRecorder rfl) pa_nil))) (pe_and (pe_cmpR (op_ownQ D_Ring_eq (hr.mono (by decide))) (pe_fld (pv 0) rfl) (pe_fld (pv 1) rfl) (nomark _)) (pe_one (pe_cmpR op_eq (pe_fld (pv 0) rfl) (pe_fld (pv 1) rfl) (nomark _)))))))
end
end Crx

set_option maxHeartbeats 4000000
namespace Crx
open PySem PySem.Spec PyProof.Rows L2 RZ
section
variable {P : Program} {w : World} {mg : Str → Option Value} {base : Heap} {M : Md} {f : Addr} {fd : FuncData}
abbrev s_law_equal_right : Stmt := top 60
theorem sc_law_equal_right : FnScope N_law_equal_right ["_law_land_here", "_law_circle_here", "_law_word", "_law_recorder"] (defScope s_law_equal_right) := ⟨rfl, rfl, rfl, by decide +kernel, rfl, by decide +kernel, by decide +kernel⟩
theorem ok_law_equal_right (F : FunD M.K "_law_equal_right" "_law_equal_right" (defArgs s_law_equal_right) (defBody s_law_equal_right) (defScope s_law_equal_right) [] [] f fd) (B : Bl mg) (G : Gl M mg) (W : Wd M) (C_mk_Ring_1_locks_walls_prices : MkK P w M.K mg base "Ring" M.ring 3 1 ["locks", "walls", "prices"] (sp_Ring_init M) (mk_Ring_1_locks_walls_prices_g M)) (C_mk_Recorder_2 : MkC P w M.K mg base "Recorder" M.recd 3 (sp_Recorder_init M)) (C_Recorder_held : MCal P w M.K mg base M.recd "held" 1 ["self"] (sp_Recorder_held M)) (D_Recorder_eq : Dun P w M.K mg base M.recd "__eq__" 3 (sp_Recorder_eq M)) (D_Recorder_repr : Dun P w M.K mg base M.recd "__repr__" 4 (sp_Recorder_repr M)) (C_Recorder_recorded : MCal P w M.K mg base M.recd "recorded" 1 ["self"] (sp_Recorder_recorded M)) :
    FnOk P w M.K mg base CX0 6 f fd ["_law_land_here", "_law_circle_here", "_law_word", "_law_recorder"] (sp_law_equal_right M) := by
  refine FunD.ok F sc_law_equal_right (fun vs H Q E h => by first | (obtain ⟨e, _⟩ := h; subst e; rfl) | (obtain ⟨_, e, _⟩ := h; subst e; rfl) | (obtain ⟨_, _, e, _⟩ := h; subst e; rfl) | (obtain ⟨_, _, _, e, _⟩ := h; subst e; rfl) | (obtain ⟨_, _, _, _, e, _⟩ := h; subst e; rfl) | (obtain ⟨_, _, _, _, _, e, _⟩ := h; subst e; rfl) | (obtain ⟨_, _, _, _, _, _, e, _⟩ := h; subst e; rfl) | (obtain ⟨_, _, _, _, _, _, _, e, _⟩ := h; subst e; rfl) | (obtain ⟨_, _, _, _, _, _, _, _, e, _⟩ := h; subst e; rfl) | (obtain ⟨_, _, _, _, _, _, _, _, _, e, _⟩ := h; subst e; rfl) | (obtain ⟨_, _, _, _, _, _, _, _, _, _, e, _⟩ := h; subst e; rfl) | (obtain ⟨_, _, _, _, _, _, _, _, _, _, _, e, _⟩ := h; subst e; rfl)) (fun cdv A outer s H vs Q E hr h => ⟨t_law_equal_right M, PSs.nox ?_, rd_law_equal_right W.C W.CR W.I W.J W.T (E := E) h⟩)
  exact (pss_cons (ps_set (i := 4) sc_law_equal_right.nd rfl (by first | exact Or.inl rfl | exact Or.inr rfl) (pe_mkK C_mk_Ring_1_locks_walls_prices (hr.mono (by decide)) (pa_cons (pe_ix ix_list (pv 0) pe_int (fun _ _ => rfl)) pa_nil) (pk_cons (pe_ix ix_list (pv 0) pe_int (fun _ _ => rfl)) (pk_cons (pe_ix ix_list (pv 0) pe_int (fun _ _ => rfl)) (pk_cons (pe_callTy call_tuple_of rfl B.tuple boot_tuple (pa_cons (pe_lc (own := [("_law_fee", 5)]) (g := (gName 5)) (tt := tYes) rfl sc_law_equal_right.nd (pi_tup (pe_ix ix_list (pv 0) pe_int (fun _ _ => rfl))) (blkOk_by (own := [("_law_fee", 5)]) (N := N_law_equal_right) (sc := defScope s_law_equal_right) (by decide +kernel)) (fun _ _ _ _ _ => (pg_name (i := 5) sc_law_equal_right.nd rfl (by first | exact Or.inl rfl | exact Or.inr rfl))) (fun _ _ _ _ _ => pts_nil) (fun _ _ _ _ _ => (pe_op op_add (pe_op op_mod (pv 5) pe_int) pe_int))) pa_nil)) pk_nil)))))
    (pss_cons (ps_par (i := 6) (j := 7) rfl sc_law_equal_right.nd rfl rfl (by decide) rfl rfl (pa_cons (pe_mk C_mk_Recorder_2 (hr.mono (by decide)) (pa_cons (pv 1) (pa_cons (pe_mcal0 C_Recorder_held (hr.mono (by decide)) (pv 3)) pa_nil))) (pa_cons (pe_mk C_mk_Recorder_2 (hr.mono (by decide)) (pa_cons (pv 4) (pa_cons (pe_mcal0 C_Recorder_held (hr.mono (by decide)) (pv 3)) pa_nil))) pa_nil)) (by rfl))
    (pss_cons (ps_if (PW.pt (pw_or (pt_not (pt_cmpR (op_ownQ D_Recorder_eq (hr.mono (by decide))) (pv 3) (pv 6) (nomark _))) (pw_or (pt_cmpR (op_ownN D_Recorder_eq W.NE_Recorder (hr.mono (by decide))) (pv 3) (pv 6) (nomark _)) (pw_or (pt_cmpR (op_ownQ D_Recorder_eq (hr.mono (by decide))) (pv 3) (pv 7) (nomark _)) (pw_or1 (pt_not (pt_cmpR (op_ownN D_Recorder_eq W.NE_Recorder (hr.mono (by decide))) (pv 3) (pv 7) (nomark _)))))))) (pss_one (ps_ret pe_bl)) pss_nil)
    (pss_cons (ps_if (pt_cmpR op_ne (pe_cmpR (op_ownQ D_Recorder_eq (hr.mono (by decide))) (pv 3) (pe_mk C_mk_Recorder_2 (hr.mono (by decide)) (pa_cons (pv 1) (pa_cons (pv 2) pa_nil))) (nomark _)) (pe_cmpR op_eq (pv 2) (pe_mcal0 C_Recorder_held (hr.mono (by decide)) (pv 3)) (nomark _)) (nomark _)) (pss_one (ps_ret pe_bl)) pss_nil)
    (pss_one (ps_ret (pe_not (pe_callB (cr_any rfl) rfl B.any boot_any (pa_cons (pe_lc (own := [("_law_thing", 8)]) (g := (gName 8)) (tt := tYes) rfl sc_law_equal_right.nd (pi_list (pe_lst (pa_cons pe_non (pa_cons pe_int (pa_cons pe_str (pa_cons (pv 2) (pa_cons (pv 1) (pa_cons (pe_mcal0 C_Recorder_recorded (hr.mono (by decide)) (pv 3)) (pa_cons (pe_callB (cr_ownRepr D_Recorder_repr (hr.mono (by decide))) rfl B.repr boot_repr (pa_cons (pv 3) pa_nil)) pa_nil))))))))) (blkOk_by (own := [("_law_thing", 8)]) (N := N_law_equal_right) (sc := defScope s_law_equal_right) (by decide +kernel)) (fun _ _ _ _ _ => (pg_name (i := 8) sc_law_equal_right.nd rfl (by first | exact Or.inl rfl | exact Or.inr rfl))) (fun _ _ _ _ _ => pts_nil) (fun _ _ _ _ _ => (pe_cmpR (op_ownQ D_Recorder_eq (hr.mono (by decide))) (pv 3) (pv 8) (nomark _)))) pa_nil)))))))))
end
end Crx

set_option maxHeartbeats 4000000
namespace Crx
open PySem PySem.Spec PyProof.Rows L2 RZ
section
variable {P : Program} {w : World} {mg : Str → Option Value} {base : Heap} {M : Md} {f : Addr} {fd : FuncData}
abbrev s_law_right : Stmt := top 61
theorem sc_law_right : FnScope N_law_right ["_law_source_here"] (defScope s_law_right) := ⟨rfl, rfl, rfl, by decide +kernel, rfl, by decide +kernel, by decide +kernel⟩
theorem ok_law_right (F : FunD M.K "_law_right" "_law_right" (defArgs s_law_right) (defBody s_law_right) (defScope s_law_right) [] [] f fd) (B : Bl mg) (G : Gl M mg) (W : Wd M) (C_law_land : Cal P w M.K mg base "_law_land" 2 ["_law_source_here", "_law_least", "_law_most"] (sp_law_land M)) (C_law_filled : Cal P w M.K mg base "_law_filled" 2 ["_law_source_here", "_law_many"] (sp_law_filled M)) (C_law_circle : Cal P w M.K mg base "_law_circle" 7 ["_law_source_here", "_law_land_here"] (sp_law_circle M)) (C_law_some : Cal P w M.K mg base "_law_some" 2 ["_law_source_here", "_law_orders_here", "_law_most"] (sp_law_some M)) (C_law_orders : Cal P w M.K mg base "_law_orders" 1 ["_law_land_here"] (sp_law_orders M)) (C_mk_Recorder_2 : MkC P w M.K mg base "Recorder" M.recd 3 (sp_Recorder_init M)) (C_mk_Recorder_0_content_ring : MkK P w M.K mg base "Recorder" M.recd 3 0 ["content", "ring"] (sp_Recorder_init M) (mk_Recorder_0_content_ring_g M)) (C_law_state : CalG P w M.K mg base "_law_state" 6 ["_law_recorder"] (sp_law_state M)) (C_law_due : CalG P w M.K mg base "_law_due" 4 ["_law_land_here", "_law_circle_here", "_law_first", "_law_done"] (sp_law_due M)) (C_Recorder_write : MCal P w M.K mg base M.recd "write" 3 ["self", "instruction"] (sp_Recorder_write M)) (C_Recorder_write_K : MCalK P w M.K mg base M.recd "write" 3 ["instruction"] (sp_Recorder_write M) appG) (C_law_equal_right : Cal P w M.K mg base "_law_equal_right" 6 ["_law_land_here", "_law_circle_here", "_law_word", "_law_recorder"] (sp_law_equal_right M)) :
    FnG P w M.K mg base 8 f fd ["_law_source_here"] (sp_law_right M) := by
  refine FunG.ok F sc_law_right (fun vs H Q h => by first | (obtain ⟨e, _⟩ := h; subst e; rfl) | (obtain ⟨_, e, _⟩ := h; subst e; rfl) | (obtain ⟨_, _, e, _⟩ := h; subst e; rfl) | (obtain ⟨_, _, _, e, _⟩ := h; subst e; rfl) | (obtain ⟨_, _, _, _, e, _⟩ := h; subst e; rfl) | (obtain ⟨_, _, _, _, _, e, _⟩ := h; subst e; rfl) | (obtain ⟨_, _, _, _, _, _, e, _⟩ := h; subst e; rfl) | (obtain ⟨_, _, _, _, _, _, _, e, _⟩ := h; subst e; rfl) | (obtain ⟨_, _, _, _, _, _, _, _, e, _⟩ := h; subst e; rfl) | (obtain ⟨_, _, _, _, _, _, _, _, _, e, _⟩ := h; subst e; rfl) | (obtain ⟨_, _, _, _, _, _, _, _, _, _, e, _⟩ := h; subst e; rfl) | (obtain ⟨_, _, _, _, _, _, _, _, _, _, _, e, _⟩ := h; subst e; rfl)) (fun cdv A outer s H vs Q hg hr h => ⟨t_law_right M, PSs.nox ?_, rd_law_right W.C W.CR W.I W.J W.T (E := E0) h⟩)
  exact (pss_cons (ps_set (i := 1) sc_law_right.nd rfl (by first | exact Or.inl rfl | exact Or.inr rfl) (pe_cal C_law_land (hr.mono (by decide)) (pa_cons (pv 0) (pa_cons pe_int (pa_cons pe_int pa_nil)))))
    (pss_cons (ps_par3 (i := 2) (j := 3) (l := 4) rfl sc_law_right.nd rfl rfl rfl (by decide) (by decide) (by decide) rfl rfl rfl (pa_cons (pe_cal C_law_circle (hr.mono (by decide)) (pa_cons (pv 0) (pa_cons (pv 1) pa_nil))) (pa_cons (pe_cal C_law_filled (hr.mono (by decide)) (pa_cons (pv 0) (pa_cons (pe_ix ix_list (pv 1) pe_int (fun _ _ => rfl)) pa_nil))) (pa_cons (pe_lst pa_nil) pa_nil))) (by rfl))
    (pss_cons (ps_par (i := 5) (j := 6) rfl sc_law_right.nd rfl rfl (by decide) rfl rfl (pa_cons (pe_mk C_mk_Recorder_2 (hr.mono (by decide)) (pa_cons (pv 2) (pa_cons (pv 3) pa_nil))) (pa_cons (pe_cal C_law_some (hr.mono (by decide)) (pa_cons (pv 0) (pa_cons (pe_cal C_law_orders (hr.mono (by decide)) (pa_cons (pv 1) pa_nil)) (pa_cons pe_int pa_nil)))) pa_nil)) (by rfl))
    (pss_cons (ps_set (i := 7) sc_law_right.nd rfl (by first | exact Or.inl rfl | exact Or.inr rfl) (pe_mkK0 C_mk_Recorder_0_content_ring (hr.mono (by decide)) (pk_cons (pv 3) (pk_cons (pv 2) pk_nil))))
    (pss_cons (ps_if (pt_cmpR (op_neD hr.units) (pe_lst (pa_cons (pe_calG C_law_state (hr.mono (by decide)) hg (pa_cons (pv 5) pa_nil)) (pa_cons (pe_calG C_law_state (hr.mono (by decide)) hg (pa_cons (pv 7) pa_nil)) pa_nil))) (pe_op op_rep (pe_lst (pa_cons (pe_calG C_law_due (hr.mono (by decide)) hg (pa_cons (pv 1) (pa_cons (pv 2) (pa_cons (pv 3) (pa_cons (pe_lst pa_nil) pa_nil))))) pa_nil)) pe_int) (nomark _)) (pss_one (ps_ret pe_bl)) pss_nil)
    (pss_cons (ps_for PassesOwn.never rfl (pi_enum rfl B.enumerate (pa_cons (pv 6) pa_nil)) (pg_tup rfl (pgs_cons (pg_name (i := 8) sc_law_right.nd rfl (by first | exact Or.inl rfl | exact Or.inr rfl)) (pgs_cons (pg_name (i := 9) sc_law_right.nd rfl (by first | exact Or.inl rfl | exact Or.inr rfl)) pgs_nil))) (pss_cons (ps_set (i := 10) sc_law_right.nd rfl (by first | exact Or.inl rfl | exact Or.inr rfl) (pe_ifExp (pt_cmpR op_eq (pe_op op_mod (pv 8) pe_int) pe_int (nomark _)) (pe_mcal C_Recorder_write (hr.mono (by decide)) (pv 5) (pa_cons (pv 9) pa_nil)) (pe_methK0 C_Recorder_write_K (hr.mono (by decide)) (pv 5) (pk_cons (pv 9) pk_nil))))
    (pss_cons (ps_expr (pe_bm PySem.F.plainAttrs_list PySem.F.slot_list_append PySem.F.type_list_append mt_append (pv 4) (pa_cons (pv 9) pa_nil)))
    (pss_one (ps_if (PW.pt (pw_or (pt_cmpR op_notN (pv 10) pe_non (nomark _)) (pw_or1 (pt_cmpR op_ne (pe_calG C_law_state (hr.mono (by decide)) hg (pa_cons (pv 5) pa_nil)) (pe_calG C_law_due (hr.mono (by decide)) hg (pa_cons (pv 1) (pa_cons (pv 2) (pa_cons (pv 3) (pa_cons (pv 4) pa_nil))))) (nomark _))))) (pss_one (ps_ret pe_bl)) pss_nil)))))
    (pss_one (ps_ret (pe_and (pe_cmpR op_eq (pe_callB SkE.call_repr_int rfl B.repr boot_repr (pa_cons (pe_fld (pv 5) rfl) pa_nil)) pe_str (nomark _)) (pe_one (pe_cal C_law_equal_right (hr.mono (by decide)) (pa_cons (pv 1) (pa_cons (pv 2) (pa_cons (pv 3) (pa_cons (pv 5) pa_nil)))))))))))))))
end
end Crx

set_option maxHeartbeats 4000000
namespace Crx
open PySem PySem.Spec PyProof.Rows L2 RZ
section
variable {P : Program} {w : World} {mg : Str → Option Value} {base : Heap} {M : Md} {f : Addr} {fd : FuncData}
abbrev s_law_source : Stmt := top 50
theorem sc_law_source : FnScope N_law_source ["_law_cell_here"] (defScope s_law_source) := ⟨rfl, rfl, rfl, by decide +kernel, rfl, by decide +kernel, by decide +kernel⟩
theorem ok_law_source (F : FunD M.K "_law_source" "_law_source" (defArgs s_law_source) (defBody s_law_source) (defScope s_law_source) [] [] f fd) (B : Bl mg) (G : Gl M mg) (W : Wd M) :
    FnOk P w M.K mg base CX0 1 f fd ["_law_cell_here"] (sp_law_source M) := by
  refine FunD.ok F sc_law_source (fun vs H Q E h => by first | (obtain ⟨e, _⟩ := h; subst e; rfl) | (obtain ⟨_, e, _⟩ := h; subst e; rfl) | (obtain ⟨_, _, e, _⟩ := h; subst e; rfl) | (obtain ⟨_, _, _, e, _⟩ := h; subst e; rfl) | (obtain ⟨_, _, _, _, e, _⟩ := h; subst e; rfl) | (obtain ⟨_, _, _, _, _, e, _⟩ := h; subst e; rfl) | (obtain ⟨_, _, _, _, _, _, e, _⟩ := h; subst e; rfl) | (obtain ⟨_, _, _, _, _, _, _, e, _⟩ := h; subst e; rfl) | (obtain ⟨_, _, _, _, _, _, _, _, e, _⟩ := h; subst e; rfl) | (obtain ⟨_, _, _, _, _, _, _, _, _, e, _⟩ := h; subst e; rfl) | (obtain ⟨_, _, _, _, _, _, _, _, _, _, e, _⟩ := h; subst e; rfl) | (obtain ⟨_, _, _, _, _, _, _, _, _, _, _, e, _⟩ := h; subst e; rfl)) (fun cdv A outer s H vs Q E hr h => ⟨t_law_source M, PSs.nox ?_, rd_law_source  (E := E) h⟩)
  exact (pss_cons (ps_set (i := 1) sc_law_source.nd rfl (by first | exact Or.inl rfl | exact Or.inr rfl) (pe_ifExp (PW.pt (pw_or (pt_cmpR op_lt (pv 0) pe_int (nomark _)) (pw_or1 (pt_cmpR op_ge (pv 0) (pe_op op_pow pe_int pe_int) (nomark _))))) (pe_callB call_abs rfl B.abs boot_abs (pa_cons (pv 0) pa_nil)) pe_int))
    (pss_one (ps_ret (pe_lst (pa_cons (pv 1) (pa_cons (pe_op op_add (pe_op op_mul (pe_op op_mod (pv 0) pe_int) pe_int) pe_int) (pa_cons pe_int pa_nil)))))))
end
end Crx

set_option maxHeartbeats 4000000
namespace Crx
open PySem PySem.Spec PyProof.Rows L2 RZ
section
variable {P : Program} {w : World} {mg : Str → Option Value} {base : Heap} {M : Md} {f : Addr} {fd : FuncData}
abbrev s_law_cell : Stmt := top 49
theorem sc_law_cell : FnScope N_law_cell ["_law_script", "_law_k"] (defScope s_law_cell) := ⟨rfl, rfl, rfl, by decide +kernel, rfl, by decide +kernel, by decide +kernel⟩
theorem ok_law_cell (F : FunD M.K "_law_cell" "_law_cell" (defArgs s_law_cell) (defBody s_law_cell) (defScope s_law_cell) [] [] f fd) (B : Bl mg) (G : Gl M mg) (W : Wd M) :
    FnOk P w M.K mg base CX0 1 f fd ["_law_script", "_law_k"] (sp_law_cell M) := by
  refine FunD.ok F sc_law_cell (fun vs H Q E h => by first | (obtain ⟨e, _⟩ := h; subst e; rfl) | (obtain ⟨_, e, _⟩ := h; subst e; rfl) | (obtain ⟨_, _, e, _⟩ := h; subst e; rfl) | (obtain ⟨_, _, _, e, _⟩ := h; subst e; rfl) | (obtain ⟨_, _, _, _, e, _⟩ := h; subst e; rfl) | (obtain ⟨_, _, _, _, _, e, _⟩ := h; subst e; rfl) | (obtain ⟨_, _, _, _, _, _, e, _⟩ := h; subst e; rfl) | (obtain ⟨_, _, _, _, _, _, _, e, _⟩ := h; subst e; rfl) | (obtain ⟨_, _, _, _, _, _, _, _, e, _⟩ := h; subst e; rfl) | (obtain ⟨_, _, _, _, _, _, _, _, _, e, _⟩ := h; subst e; rfl) | (obtain ⟨_, _, _, _, _, _, _, _, _, _, e, _⟩ := h; subst e; rfl) | (obtain ⟨_, _, _, _, _, _, _, _, _, _, _, e, _⟩ := h; subst e; rfl)) (fun cdv A outer s H vs Q E hr h => ⟨t_law_cell M, PSs.nox ?_, rd_law_cell  (E := E) h⟩)
  exact (pss_cons (ps_if (pt_cmpR op_lt (pv 1) (pe_callB call_len_seq rfl B.len boot_len (pa_cons (pv 0) pa_nil)) (nomark _)) (pss_one (ps_ret (pe_ix ix_list (pv 0) (pv 1) (fun _ _ => rfl)))) pss_nil)
    (pss_cons (ps_set (i := 2) sc_law_cell.nd rfl (by first | exact Or.inl rfl | exact Or.inr rfl) (pe_op op_mod (pe_op op_mul pe_int (pe_op op_add (pe_op op_add (pe_op op_mul (pv 1) (pv 1)) (pe_op op_mul pe_int (pv 1))) pe_int)) pe_int))
    (pss_cons (ps_for PassesOwn.never rfl (pi_list (pe_slice sl_list (pv 0) po_none (po_some pe_int))) (pg_name (i := 3) sc_law_cell.nd rfl (by first | exact Or.inl rfl | exact Or.inr rfl)) (pss_one (ps_set (i := 2) sc_law_cell.nd rfl (by first | exact Or.inl rfl | exact Or.inr rfl) (pe_op op_mod (pe_op op_add (pe_op op_mul (pv 2) pe_int) (pv 3)) pe_int))))
    (pss_one (ps_ret (pv 2))))))
end
end Crx

set_option maxHeartbeats 4000000
namespace Crx
open PySem PySem.Spec PyProof.Rows L2 RZ
section
variable {P : Program} {w : World} {mg : Str → Option Value} {base : Heap} {M : Md} {f : Addr} {fd : FuncData}
abbrev s_law : Stmt := top 62
theorem sc_law : FnScope N_law ["_law_script"] (defScope s_law) := ⟨rfl, rfl, rfl, by decide +kernel, rfl, by decide +kernel, by decide +kernel⟩
theorem ok_law (F : FunD M.K "law" "law" (defArgs s_law) (defBody s_law) (defScope s_law) [] [] f fd) (B : Bl mg) (G : Gl M mg) (W : Wd M) (C_law_right : CalG P w M.K mg base "_law_right" 8 ["_law_source_here"] (sp_law_right M)) (C_law_source : Cal P w M.K mg base "_law_source" 1 ["_law_cell_here"] (sp_law_source M)) (C_law_cell : Cal P w M.K mg base "_law_cell" 1 ["_law_script", "_law_k"] (sp_law_cell M)) :
    FnG P w M.K mg base 9 f fd ["_law_script"] (sp_law M) := by
  refine FunG.ok F sc_law (fun vs H Q h => by first | (obtain ⟨e, _⟩ := h; subst e; rfl) | (obtain ⟨_, e, _⟩ := h; subst e; rfl) | (obtain ⟨_, _, e, _⟩ := h; subst e; rfl) | (obtain ⟨_, _, _, e, _⟩ := h; subst e; rfl) | (obtain ⟨_, _, _, _, e, _⟩ := h; subst e; rfl) | (obtain ⟨_, _, _, _, _, e, _⟩ := h; subst e; rfl) | (obtain ⟨_, _, _, _, _, _, e, _⟩ := h; subst e; rfl) | (obtain ⟨_, _, _, _, _, _, _, e, _⟩ := h; subst e; rfl) | (obtain ⟨_, _, _, _, _, _, _, _, e, _⟩ := h; subst e; rfl) | (obtain ⟨_, _, _, _, _, _, _, _, _, e, _⟩ := h; subst e; rfl) | (obtain ⟨_, _, _, _, _, _, _, _, _, _, e, _⟩ := h; subst e; rfl) | (obtain ⟨_, _, _, _, _, _, _, _, _, _, _, e, _⟩ := h; subst e; rfl)) (fun cdv A outer s H vs Q hg hr h => ⟨t_law M, PSs.nox ?_, rd_law  (E := E0) h⟩)
  exact (pss_one (ps_ret (pe_callB (cr_all rfl) rfl B.all boot_all (pa_cons (pe_lc (own := [("_law_k", 1)]) (g := (gName 1)) (tt := tYes) rfl sc_law.nd (pi_range1 rfl B.range (pa_cons (pe_callB (call_max2 rfl) rfl B.max boot_max (pa_cons pe_int (pa_cons (pe_callB (call_min2 rfl) rfl B.min boot_min (pa_cons (pe_callB call_len_seq rfl B.len boot_len (pa_cons (pv 0) pa_nil)) (pa_cons pe_int pa_nil))) pa_nil))) pa_nil)) (blkOk_by (own := [("_law_k", 1)]) (N := N_law) (sc := defScope s_law) (by decide +kernel)) (fun _ _ _ _ _ => (pg_name (i := 1) sc_law.nd rfl (by first | exact Or.inl rfl | exact Or.inr rfl))) (fun _ _ _ _ _ => pts_nil) (fun _ _ _ _ _ => (pe_calG C_law_right (hr.mono (by decide)) hg (pa_cons (pe_cal C_law_source (hr.mono (by decide)) (pa_cons (pe_cal C_law_cell (hr.mono (by decide)) (pa_cons (pv 0) (pa_cons (pv 1) pa_nil))) pa_nil)) pa_nil)))) pa_nil))))
end
end Crx

set_option maxHeartbeats 0
/-! The head: each def by its name, the run of the top; printed by mk.py. -/
namespace Crx
open PySem PySem.Spec PyProof.Rows L2 RZ
def d_law_draw : He.DefD := ⟨("_law_draw", none), "_law_draw", "_law_draw", defArgs s_law_draw, defBody s_law_draw, defScope s_law_draw, [], []⟩
def d_law_land : He.DefD := ⟨("_law_land", none), "_law_land", "_law_land", defArgs s_law_land, defBody s_law_land, defScope s_law_land, [], []⟩
def d_law_filled : He.DefD := ⟨("_law_filled", none), "_law_filled", "_law_filled", defArgs s_law_filled, defBody s_law_filled, defScope s_law_filled, [], []⟩
def d_is_integer : He.DefD := ⟨("is_integer", none), "is_integer", "is_integer", defArgs s_is_integer, defBody s_is_integer, defScope s_is_integer, [], []⟩
def d_is_ascending : He.DefD := ⟨("is_ascending", none), "is_ascending", "is_ascending", defArgs s_is_ascending, defBody s_is_ascending, defScope s_is_ascending, [], []⟩
def d_checked_prices : He.DefD := ⟨("checked_prices", none), "checked_prices", "checked_prices", defArgs s_checked_prices, defBody s_checked_prices, defScope s_checked_prices, [], []⟩
def d_Ring_init : He.DefD := ⟨("Ring", some "__init__"), "__init__", "Ring.__init__", defArgs s_Ring_init, defBody s_Ring_init, defScope s_Ring_init, [], []⟩
def d_read_number : He.DefD := ⟨("read_number", none), "read_number", "read_number", defArgs s_read_number, defBody s_read_number, defScope s_read_number, [], []⟩
def d_numbers_of : He.DefD := ⟨("numbers_of", none), "numbers_of", "numbers_of", defArgs s_numbers_of, defBody s_numbers_of, defScope s_numbers_of, [], []⟩
def d_read_ring : He.DefD := ⟨("read_ring", none), "read_ring", "read_ring", defArgs s_read_ring, defBody s_read_ring, defScope s_read_ring, [], []⟩
def d_Ring_str : He.DefD := ⟨("Ring", some "__str__"), "__str__", "Ring.__str__", defArgs s_Ring_str, defBody s_Ring_str, defScope s_Ring_str, [], []⟩
def d_parse_ring : He.DefD := ⟨("parse_ring", none), "parse_ring", "parse_ring", defArgs s_parse_ring, defBody s_parse_ring, defScope s_parse_ring, [], []⟩
def d_law_circle : He.DefD := ⟨("_law_circle", none), "_law_circle", "_law_circle", defArgs s_law_circle, defBody s_law_circle, defScope s_law_circle, [], []⟩
def d_law_some : He.DefD := ⟨("_law_some", none), "_law_some", "_law_some", defArgs s_law_some, defBody s_law_some, defScope s_law_some, [], []⟩
def d_law_orders : He.DefD := ⟨("_law_orders", none), "_law_orders", "_law_orders", defArgs s_law_orders, defBody s_law_orders, defScope s_law_orders, [], []⟩
def d_check_ring : He.DefD := ⟨("check_ring", none), "check_ring", "check_ring", defArgs s_check_ring, defBody s_check_ring, defScope s_check_ring, [], []⟩
def d_is_content : He.DefD := ⟨("is_content", none), "is_content", "is_content", defArgs s_is_content, defBody s_is_content, defScope s_is_content, [], []⟩
def d_check_content : He.DefD := ⟨("check_content", none), "check_content", "check_content", defArgs s_check_content, defBody s_check_content, defScope s_check_content, [], []⟩
def d_Recorder_init : He.DefD := ⟨("Recorder", some "__init__"), "__init__", "Recorder.__init__", defArgs s_Recorder_init, defBody s_Recorder_init, defScope s_Recorder_init, [], []⟩
def d_Recorder_len : He.DefD := ⟨("Recorder", some "__len__"), "__len__", "Recorder.__len__", defArgs s_Recorder_len, defBody s_Recorder_len, defScope s_Recorder_len, [], []⟩
def d_Recorder_spent : He.DefD := ⟨("Recorder", some "spent"), "spent", "Recorder.spent", defArgs s_Recorder_spent, defBody s_Recorder_spent, defScope s_Recorder_spent, [], []⟩
def d_identity_of : He.DefD := ⟨("identity_of", none), "identity_of", "identity_of", defArgs s_identity_of, defBody s_identity_of, defScope s_identity_of, [], []⟩
def d_is_pair : He.DefD := ⟨("is_pair", none), "is_pair", "is_pair", defArgs s_is_pair, defBody s_is_pair, defScope s_is_pair, [], []⟩
def d_after : He.DefD := ⟨("after", none), "after", "after", defArgs s_after, defBody s_after, defScope s_after, [], []⟩
def d_effect_of : He.DefD := ⟨("effect_of", none), "effect_of", "effect_of", defArgs s_effect_of, defBody s_effect_of, defScope s_effect_of, [], []⟩
def d_Recorder_recorded : He.DefD := ⟨("Recorder", some "recorded"), "recorded", "Recorder.recorded", defArgs s_Recorder_recorded, defBody s_Recorder_recorded, defScope s_Recorder_recorded, [], []⟩
def d_Recorder_sources : He.DefD := ⟨("Recorder", some "sources"), "sources", "Recorder.sources", defArgs s_Recorder_sources, defBody s_Recorder_sources, defScope s_Recorder_sources, [], []⟩
def d_Recorder_held : He.DefD := ⟨("Recorder", some "held"), "held", "Recorder.held", defArgs s_Recorder_held, defBody s_Recorder_held, defScope s_Recorder_held, [], []⟩
def d_Recorder_str : He.DefD := ⟨("Recorder", some "__str__"), "__str__", "Recorder.__str__", defArgs s_Recorder_str, defBody s_Recorder_str, defScope s_Recorder_str, [], []⟩
def d_Recorder_repr : He.DefD := ⟨("Recorder", some "__repr__"), "__repr__", "Recorder.__repr__", defArgs s_Recorder_repr, defBody s_Recorder_repr, defScope s_Recorder_repr, [], []⟩
def d_law_state : He.DefD := ⟨("_law_state", none), "_law_state", "_law_state", defArgs s_law_state, defBody s_law_state, defScope s_law_state, [], []⟩
def d_law_copied : He.DefD := ⟨("_law_copied", none), "_law_copied", "_law_copied", defArgs s_law_copied, defBody s_law_copied, defScope s_law_copied, [], []⟩
def d_law_due : He.DefD := ⟨("_law_due", none), "_law_due", "_law_due", defArgs s_law_due, defBody s_law_due, defScope s_law_due, [], []⟩
def d_Ring_allows : He.DefD := ⟨("Ring", some "allows"), "allows", "Ring.allows", defArgs s_Ring_allows, defBody s_Ring_allows, defScope s_Ring_allows, [], []⟩
def d_letters_of : He.DefD := ⟨("letters_of", none), "letters_of", "letters_of", defArgs s_letters_of, defBody s_letters_of, defScope s_letters_of, [], []⟩
def d_Recorder_write : He.DefD := ⟨("Recorder", some "write"), "write", "Recorder.write", defArgs s_Recorder_write, defBody s_Recorder_write, defScope s_Recorder_write, [], []⟩
def d_Ring_eq : He.DefD := ⟨("Ring", some "__eq__"), "__eq__", "Ring.__eq__", defArgs s_Ring_eq, defBody s_Ring_eq, defScope s_Ring_eq, [], []⟩
def d_Recorder_eq : He.DefD := ⟨("Recorder", some "__eq__"), "__eq__", "Recorder.__eq__", defArgs s_Recorder_eq, defBody s_Recorder_eq, defScope s_Recorder_eq, [], []⟩
def d_law_equal_right : He.DefD := ⟨("_law_equal_right", none), "_law_equal_right", "_law_equal_right", defArgs s_law_equal_right, defBody s_law_equal_right, defScope s_law_equal_right, [], []⟩
def d_law_right : He.DefD := ⟨("_law_right", none), "_law_right", "_law_right", defArgs s_law_right, defBody s_law_right, defScope s_law_right, [], []⟩
def d_law_source : He.DefD := ⟨("_law_source", none), "_law_source", "_law_source", defArgs s_law_source, defBody s_law_source, defScope s_law_source, [], []⟩
def d_law_cell : He.DefD := ⟨("_law_cell", none), "_law_cell", "_law_cell", defArgs s_law_cell, defBody s_law_cell, defScope s_law_cell, [], []⟩
def d_law : He.DefD := ⟨("law", none), "law", "law", defArgs s_law, defBody s_law, defScope s_law, [], []⟩
abbrev LwRow : PySem.W.OpenRow := PySem.W.OpenLaw.row PySem.Challenge.rw_copyring_k65_instructions_recorded
def fnL : List He.DefD := [d_law_draw, d_law_land, d_law_filled, d_is_integer, d_is_ascending, d_checked_prices, d_Ring_init, d_read_number, d_numbers_of, d_read_ring, d_Ring_str, d_parse_ring, d_law_circle, d_law_some, d_law_orders, d_check_ring, d_is_content, d_check_content, d_Recorder_init, d_Recorder_len, d_Recorder_spent, d_identity_of, d_is_pair, d_after, d_effect_of, d_Recorder_recorded, d_Recorder_sources, d_Recorder_held, d_Recorder_str, d_Recorder_repr, d_law_state, d_law_copied, d_law_due, d_Ring_allows, d_letters_of, d_Recorder_write, d_Ring_eq, d_Recorder_eq, d_law_equal_right, d_law_right, d_law_source, d_law_cell, d_law]
def fa0 : List He.Fa := [.glo "_law_draw", .glo "_law_land", .glo "_law_filled", .glo "is_integer", .glo "is_ascending", .glo "checked_prices", .glo "read_number", .glo "numbers_of", .glo "read_ring", .glo "parse_ring", .glo "_law_circle", .glo "_law_some", .glo "_law_orders", .glo "check_ring", .glo "is_content", .glo "check_content", .glo "identity_of", .glo "is_pair", .glo "after", .glo "effect_of", .glo "_law_state", .glo "_law_copied", .glo "_law_due", .glo "letters_of", .glo "_law_equal_right"]
def fa1 : List He.Fa := [.glo "_law_right", .glo "_law_source", .glo "_law_cell", .glo "law", .free "abs", .free "all", .free "any", .free "bool", .free "divmod", .free "enumerate", .free "int", .free "isinstance", .free "len", .free "list", .free "max", .free "min", .free "range", .free "repr", .free "str", .free "sum", .free "tuple", .free "zip", .str "DIGITS" "0123456789", .str "LEFT" "left", .str "LETTERS" "abcdefghijklmnopqrstuvwxyz"]
def fa2 : List He.Fa := [.int "MAX_DIGITS" 31, .int "MAX_PRICE" 999, .int "MAX_RECORDS" 400, .int "MAX_SIZE" 12, .int "MIN_SIZE" 2, .str "RIGHT" "right", .glo "Recorder", .glo "Ring", .cls "Ring", .mkr "Ring", .noat "Ring" "size", .noat "Ring" "locks", .noat "Ring" "walls", .noat "Ring" "prices", .cls "Recorder", .mkr "Recorder", .noat "Recorder" "ring", .noat "Recorder" "running", .noat "Recorder" "runs", .noat "Recorder" "letters", .noat "Recorder" "done", .meth "Ring" "__str__", .meth "Recorder" "__len__", .meth "Recorder" "spent", .meth "Recorder" "recorded"]
def fa3 : List He.Fa := [.meth "Recorder" "sources", .meth "Recorder" "held", .meth "Recorder" "__str__", .meth "Recorder" "__repr__", .meth "Ring" "allows", .meth "Recorder" "write", .meth "Ring" "__eq__", .meth "Recorder" "__eq__"]
def faL : List He.Fa := fa0 ++ (fa1 ++ (fa2 ++ (fa3)))
def exL (K : PySem.W.Frag) : Bool := iclsB K "Ring" && (iclsB K "Recorder" && (neB K "Recorder" && (nobB K "Recorder" && twoB K "Ring" "Recorder")))
abbrev hk : PySem.W.Hook := hookX 6 faL fnL exL
def ob (s : PySem.W.SharedT) : Bool × He.AlD := obX 6 faL fnL exL (HandSHeadRun.getT s)
theorem ob_eq (s : PySem.W.SharedT) : ob s = hk.obs s.abs := obX_eq (HandSHeadRun.getT_eq s)
def looseL : List PySem.Str := (["_wall", "InputError", "InvalidSize", "InvalidLocks", "InvalidWalls", "InvalidPrices", "InvalidRing", "InvalidInstruction", "InvalidContent", "InvalidText", "LimitError", "TooMany", "MAX_SIZE", "MAX_PRICE", "MAX_RECORDS", "is_integer", "is_ascending", "first_wrong", "MIN_SIZE", "LEFT", "RIGHT", "LETTERS", "Ring", "checked_prices", "check_ring", "identity_of", "is_content", "check_content", "is_pair", "after"] : List PySem.Str) ++ (["joined", "powered", "effect_of", "letters_of", "Recorder", "DIGITS", "MAX_DIGITS", "read_number", "numbers_of", "read_ring", "parse_ring", "_law_cell", "_law_source", "_law_draw", "_law_land", "_law_circle", "_law_orders", "_law_copied", "_law_filled", "_law_some", "_law_state", "_law_due", "_law_equal_right", "_law_right"] : List PySem.Str)
theorem run (w : World) : HandSHeadRun.RunEq LwRow (PySem.W.view LwRow.prog [62]) hk ob 8000 ((["_wall", "InputError", "InvalidSize", "InvalidLocks", "InvalidWalls", "InvalidPrices", "InvalidRing", "InvalidInstruction", "InvalidContent", "InvalidText", "LimitError", "TooMany", "MAX_SIZE", "MAX_PRICE", "MAX_RECORDS", "is_integer", "is_ascending", "first_wrong", "MIN_SIZE", "LEFT", "RIGHT", "LETTERS", "Ring", "checked_prices", "check_ring", "identity_of", "is_content", "check_content", "is_pair", "after"] : List PySem.Str) ++ (["joined", "powered", "effect_of", "letters_of", "Recorder", "DIGITS", "MAX_DIGITS", "read_number", "numbers_of", "read_ring", "parse_ring", "_law_cell", "_law_source", "_law_draw", "_law_land", "_law_circle", "_law_orders", "_law_copied", "_law_filled", "_law_some", "_law_state", "_law_due", "_law_equal_right", "_law_right"] : List PySem.Str)) w := by
  intro os
  kernel_rfl
end Crx

set_option maxHeartbeats 4000000
/-! What the head tells, def by def; printed by mk.py. -/
namespace Crx
open PySem PySem.Spec PyProof.Rows L2 RZ
def mdOf (K : PySem.W.Frag) : Md := ⟨K, He.ga K "Ring", He.ga K "Recorder"⟩
theorem icls_ok {K : PySem.W.Frag} {x : Str} (cl : Cls K (He.ga K x)) (h : iclsB K x = true) : ICls K (He.ga K x) := by
  obtain ⟨h1, h⟩ := He.ba h
  obtain ⟨h2, h⟩ := He.ba h
  obtain ⟨h3, h⟩ := He.ba h
  obtain ⟨h4, h⟩ := He.ba h
  obtain ⟨h5, h⟩ := He.ba h
  obtain ⟨h6, h7⟩ := He.ba h
  exact ⟨cl, He.eqO_ok h1, He.eqO_ok h2, of_decide_eq_true h3, of_decide_eq_true h4, of_decide_eq_true h5, fun k hk => of_decide_eq_true (List.all_eq_true.mp h6 k hk), fun k hk => List.all_eq_true.mp h7 k hk⟩
theorem two_ok {K : PySem.W.Frag} (h : twoB K "Ring" "Recorder" = true) : Two (mdOf K) := by
  obtain ⟨h1, h⟩ := He.ba h
  obtain ⟨h2, h3⟩ := He.ba h
  exact ⟨of_decide_eq_true h1, of_decide_eq_true h2, h3⟩
theorem wd_ok {K : PySem.W.Frag} (cx : exL K = true) (c : He.SaysD faL fnL K) : Wd (mdOf K) := by
  obtain ⟨h1, h⟩ := He.ba cx
  obtain ⟨h2, h⟩ := He.ba h
  obtain ⟨h3, h⟩ := He.ba h
  obtain ⟨h4, h5⟩ := He.ba h
  have k1 := He.cls_ok (K := K) (x := "Ring") (c.fact 58 (f := .cls "Ring") rfl)
  have k2 := He.cls_ok (K := K) (x := "Recorder") (c.fact 64 (f := .cls "Recorder") rfl)
  have i1 := icls_ok k1 h1
  have i2 := icls_ok k2 h2
  exact { CR := ⟨k1, He.noat_ok (c.fact 60 (f := .noat "Ring" "size") rfl), He.noat_ok (c.fact 61 (f := .noat "Ring" "locks") rfl), He.noat_ok (c.fact 62 (f := .noat "Ring" "walls") rfl), He.noat_ok (c.fact 63 (f := .noat "Ring" "prices") rfl)⟩, C := ⟨k2, He.noat_ok (c.fact 66 (f := .noat "Recorder" "ring") rfl), He.noat_ok (c.fact 67 (f := .noat "Recorder" "running") rfl), He.noat_ok (c.fact 68 (f := .noat "Recorder" "runs") rfl), He.noat_ok (c.fact 69 (f := .noat "Recorder" "letters") rfl), He.noat_ok (c.fact 70 (f := .noat "Recorder" "done") rfl)⟩, I := i1, J := i2, T := two_ok h5, NE_Recorder := ⟨He.eqO_ok h3, i2.cm⟩, NB_Recorder := ⟨He.eqO_ok h4⟩ }
theorem facts {P : Program} {w : World} {K : PySem.W.Frag} {h : Heap} {mg : Str → Option Value} {f : Addr} (X : K.In h) (Gn : h.Ns mainGlobals mg) (hfa : mg ("law" : Str) = some (.ref f)) (cx : exL K = true) (c : He.SaysD faL fnL K) :
    ∃ fd : FuncData, (∀ (s : Shared) (v : Value), BindsTo s fd ⟨[v], []⟩ [("_law_script", v)]) ∧ ∀ base : Heap, FnG P w K mg base 9 f fd ["_law_script"] (sp_law (mdOf K)) := by
  have W : Wd (mdOf K) := wd_ok cx c
  have B : Bl mg := ⟨He.free_ok X Gn (c.fact 29 (f := .free "abs") rfl), He.free_ok X Gn (c.fact 30 (f := .free "all") rfl), He.free_ok X Gn (c.fact 31 (f := .free "any") rfl), He.free_ok X Gn (c.fact 32 (f := .free "bool") rfl), He.free_ok X Gn (c.fact 33 (f := .free "divmod") rfl), He.free_ok X Gn (c.fact 34 (f := .free "enumerate") rfl), He.free_ok X Gn (c.fact 35 (f := .free "int") rfl), He.free_ok X Gn (c.fact 36 (f := .free "isinstance") rfl), He.free_ok X Gn (c.fact 37 (f := .free "len") rfl), He.free_ok X Gn (c.fact 38 (f := .free "list") rfl), He.free_ok X Gn (c.fact 39 (f := .free "max") rfl), He.free_ok X Gn (c.fact 40 (f := .free "min") rfl), He.free_ok X Gn (c.fact 41 (f := .free "range") rfl), He.free_ok X Gn (c.fact 42 (f := .free "repr") rfl), He.free_ok X Gn (c.fact 43 (f := .free "str") rfl), He.free_ok X Gn (c.fact 44 (f := .free "sum") rfl), He.free_ok X Gn (c.fact 45 (f := .free "tuple") rfl), He.free_ok X Gn (c.fact 46 (f := .free "zip") rfl)⟩
  have G : Gl (mdOf K) mg := ⟨He.str_ok X Gn (c.fact 47 (f := .str "DIGITS" "0123456789") rfl), He.str_ok X Gn (c.fact 48 (f := .str "LEFT" "left") rfl), He.str_ok X Gn (c.fact 49 (f := .str "LETTERS" "abcdefghijklmnopqrstuvwxyz") rfl), He.int_ok X Gn (c.fact 50 (f := .int "MAX_DIGITS" 31) rfl), He.int_ok X Gn (c.fact 51 (f := .int "MAX_PRICE" 999) rfl), He.int_ok X Gn (c.fact 52 (f := .int "MAX_RECORDS" 400) rfl), He.int_ok X Gn (c.fact 53 (f := .int "MAX_SIZE" 12) rfl), He.int_ok X Gn (c.fact 54 (f := .int "MIN_SIZE" 2) rfl), He.str_ok X Gn (c.fact 55 (f := .str "RIGHT" "right") rfl), He.glo_ok X Gn (c.fact 56 (f := .glo "Recorder") rfl), He.glo_ok X Gn (c.fact 57 (f := .glo "Ring") rfl)⟩
  obtain ⟨fd_law_draw, F_law_draw⟩ := c.def_ 0 (d := d_law_draw) rfl
  obtain ⟨fd_law_land, F_law_land⟩ := c.def_ 1 (d := d_law_land) rfl
  obtain ⟨fd_law_filled, F_law_filled⟩ := c.def_ 2 (d := d_law_filled) rfl
  obtain ⟨fd_is_integer, F_is_integer⟩ := c.def_ 3 (d := d_is_integer) rfl
  obtain ⟨fd_is_ascending, F_is_ascending⟩ := c.def_ 4 (d := d_is_ascending) rfl
  obtain ⟨fd_checked_prices, F_checked_prices⟩ := c.def_ 5 (d := d_checked_prices) rfl
  obtain ⟨fd_Ring_init, F_Ring_init⟩ := c.def_ 6 (d := d_Ring_init) rfl
  obtain ⟨fd_read_number, F_read_number⟩ := c.def_ 7 (d := d_read_number) rfl
  obtain ⟨fd_numbers_of, F_numbers_of⟩ := c.def_ 8 (d := d_numbers_of) rfl
  obtain ⟨fd_read_ring, F_read_ring⟩ := c.def_ 9 (d := d_read_ring) rfl
  obtain ⟨fd_Ring_str, F_Ring_str⟩ := c.def_ 10 (d := d_Ring_str) rfl
  obtain ⟨fd_parse_ring, F_parse_ring⟩ := c.def_ 11 (d := d_parse_ring) rfl
  obtain ⟨fd_law_circle, F_law_circle⟩ := c.def_ 12 (d := d_law_circle) rfl
  obtain ⟨fd_law_some, F_law_some⟩ := c.def_ 13 (d := d_law_some) rfl
  obtain ⟨fd_law_orders, F_law_orders⟩ := c.def_ 14 (d := d_law_orders) rfl
  obtain ⟨fd_check_ring, F_check_ring⟩ := c.def_ 15 (d := d_check_ring) rfl
  obtain ⟨fd_is_content, F_is_content⟩ := c.def_ 16 (d := d_is_content) rfl
  obtain ⟨fd_check_content, F_check_content⟩ := c.def_ 17 (d := d_check_content) rfl
  obtain ⟨fd_Recorder_init, F_Recorder_init⟩ := c.def_ 18 (d := d_Recorder_init) rfl
  obtain ⟨fd_Recorder_len, F_Recorder_len⟩ := c.def_ 19 (d := d_Recorder_len) rfl
  obtain ⟨fd_Recorder_spent, F_Recorder_spent⟩ := c.def_ 20 (d := d_Recorder_spent) rfl
  obtain ⟨fd_identity_of, F_identity_of⟩ := c.def_ 21 (d := d_identity_of) rfl
  obtain ⟨fd_is_pair, F_is_pair⟩ := c.def_ 22 (d := d_is_pair) rfl
  obtain ⟨fd_after, F_after⟩ := c.def_ 23 (d := d_after) rfl
  obtain ⟨fd_effect_of, F_effect_of⟩ := c.def_ 24 (d := d_effect_of) rfl
  obtain ⟨fd_Recorder_recorded, F_Recorder_recorded⟩ := c.def_ 25 (d := d_Recorder_recorded) rfl
  obtain ⟨fd_Recorder_sources, F_Recorder_sources⟩ := c.def_ 26 (d := d_Recorder_sources) rfl
  obtain ⟨fd_Recorder_held, F_Recorder_held⟩ := c.def_ 27 (d := d_Recorder_held) rfl
  obtain ⟨fd_Recorder_str, F_Recorder_str⟩ := c.def_ 28 (d := d_Recorder_str) rfl
  obtain ⟨fd_Recorder_repr, F_Recorder_repr⟩ := c.def_ 29 (d := d_Recorder_repr) rfl
  obtain ⟨fd_law_state, F_law_state⟩ := c.def_ 30 (d := d_law_state) rfl
  obtain ⟨fd_law_copied, F_law_copied⟩ := c.def_ 31 (d := d_law_copied) rfl
  obtain ⟨fd_law_due, F_law_due⟩ := c.def_ 32 (d := d_law_due) rfl
  obtain ⟨fd_Ring_allows, F_Ring_allows⟩ := c.def_ 33 (d := d_Ring_allows) rfl
  obtain ⟨fd_letters_of, F_letters_of⟩ := c.def_ 34 (d := d_letters_of) rfl
  obtain ⟨fd_Recorder_write, F_Recorder_write⟩ := c.def_ 35 (d := d_Recorder_write) rfl
  obtain ⟨fd_Ring_eq, F_Ring_eq⟩ := c.def_ 36 (d := d_Ring_eq) rfl
  obtain ⟨fd_Recorder_eq, F_Recorder_eq⟩ := c.def_ 37 (d := d_Recorder_eq) rfl
  obtain ⟨fd_law_equal_right, F_law_equal_right⟩ := c.def_ 38 (d := d_law_equal_right) rfl
  obtain ⟨fd_law_right, F_law_right⟩ := c.def_ 39 (d := d_law_right) rfl
  obtain ⟨fd_law_source, F_law_source⟩ := c.def_ 40 (d := d_law_source) rfl
  obtain ⟨fd_law_cell, F_law_cell⟩ := c.def_ 41 (d := d_law_cell) rfl
  obtain ⟨fd_law, F_law⟩ := c.def_ 42 (d := d_law) rfl
  have e := hfa.symm.trans (He.glo_ok X Gn (c.fact 28 (f := .glo "law") rfl))
  cases e
  have bl := FunD.bindsA (ps := ["_law_script"]) F_law fun _ _ _ _ _ _ us hl => match us, hl with | [_], _ => rfl
  refine ⟨fd_law, fun s v => bl s [v] rfl, fun base => ?_⟩
  have M0 : mdOf K = mdOf K := rfl
  have O_law_draw : FnOk P w (mdOf K).K mg base CX0 1 _ fd_law_draw ["_law_source_here", "_law_size"] (sp_law_draw (mdOf K)) := ok_law_draw (M := mdOf K) F_law_draw B G W 
  have b_law_draw : Binds K fd_law_draw ["_law_source_here", "_law_size"] [] := F_law_draw.bindsN fun _ _ _ _ _ _ us hl => match us, hl with | [_, _], _ => rfl
  have C_law_draw : Cal P w (mdOf K).K mg base "_law_draw" 1 ["_law_source_here", "_law_size"] (sp_law_draw (mdOf K)) := ⟨⟨_, fd_law_draw, O_law_draw, He.glo_ok X Gn (c.fact 0 (f := .glo "_law_draw") rfl), F_law_draw.kp, b_law_draw⟩⟩
  have O_law_land : FnOk P w (mdOf K).K mg base CX0 2 _ fd_law_land ["_law_source_here", "_law_least", "_law_most"] (sp_law_land (mdOf K)) := ok_law_land (M := mdOf K) F_law_land B G W C_law_draw
  have b_law_land : Binds K fd_law_land ["_law_source_here", "_law_least", "_law_most"] [] := F_law_land.bindsN fun _ _ _ _ _ _ us hl => match us, hl with | [_, _, _], _ => rfl
  have C_law_land : Cal P w (mdOf K).K mg base "_law_land" 2 ["_law_source_here", "_law_least", "_law_most"] (sp_law_land (mdOf K)) := ⟨⟨_, fd_law_land, O_law_land, He.glo_ok X Gn (c.fact 1 (f := .glo "_law_land") rfl), F_law_land.kp, b_law_land⟩⟩
  have O_law_filled : FnOk P w (mdOf K).K mg base CX0 2 _ fd_law_filled ["_law_source_here", "_law_many"] (sp_law_filled (mdOf K)) := ok_law_filled (M := mdOf K) F_law_filled B G W C_law_draw
  have b_law_filled : Binds K fd_law_filled ["_law_source_here", "_law_many"] [] := F_law_filled.bindsN fun _ _ _ _ _ _ us hl => match us, hl with | [_, _], _ => rfl
  have C_law_filled : Cal P w (mdOf K).K mg base "_law_filled" 2 ["_law_source_here", "_law_many"] (sp_law_filled (mdOf K)) := ⟨⟨_, fd_law_filled, O_law_filled, He.glo_ok X Gn (c.fact 2 (f := .glo "_law_filled") rfl), F_law_filled.kp, b_law_filled⟩⟩
  have O_is_integer : FnOk P w (mdOf K).K mg base CX0 1 _ fd_is_integer ["value", "low", "high"] (sp_is_integer (mdOf K)) := ok_is_integer (M := mdOf K) F_is_integer B G W 
  have b_is_integer : Binds K fd_is_integer ["value", "low", "high"] [] := F_is_integer.bindsN fun _ _ _ _ _ _ us hl => match us, hl with | [_, _, _], _ => rfl
  have C_is_integer : Cal P w (mdOf K).K mg base "is_integer" 1 ["value", "low", "high"] (sp_is_integer (mdOf K)) := ⟨⟨_, fd_is_integer, O_is_integer, He.glo_ok X Gn (c.fact 3 (f := .glo "is_integer") rfl), F_is_integer.kp, b_is_integer⟩⟩
  have O_is_ascending : FnOk P w (mdOf K).K mg base CX0 2 _ fd_is_ascending ["value", "low", "high"] (sp_is_ascending (mdOf K)) := ok_is_ascending (M := mdOf K) F_is_ascending B G W C_is_integer
  have b_is_ascending : Binds K fd_is_ascending ["value", "low", "high"] [] := F_is_ascending.bindsN fun _ _ _ _ _ _ us hl => match us, hl with | [_, _, _], _ => rfl
  have C_is_ascending : Cal P w (mdOf K).K mg base "is_ascending" 2 ["value", "low", "high"] (sp_is_ascending (mdOf K)) := ⟨⟨_, fd_is_ascending, O_is_ascending, He.glo_ok X Gn (c.fact 4 (f := .glo "is_ascending") rfl), F_is_ascending.kp, b_is_ascending⟩⟩
  have O_checked_prices : FnOk P w (mdOf K).K mg base CX0 2 _ fd_checked_prices ["size", "prices"] (sp_checked_prices (mdOf K)) := ok_checked_prices (M := mdOf K) F_checked_prices B G W C_is_integer
  have b_checked_prices : Binds K fd_checked_prices ["size", "prices"] [] := F_checked_prices.bindsN fun _ _ _ _ _ _ us hl => match us, hl with | [_, _], _ => rfl
  have C_checked_prices : Cal P w (mdOf K).K mg base "checked_prices" 2 ["size", "prices"] (sp_checked_prices (mdOf K)) := ⟨⟨_, fd_checked_prices, O_checked_prices, He.glo_ok X Gn (c.fact 5 (f := .glo "checked_prices") rfl), F_checked_prices.kp, b_checked_prices⟩⟩
  have O_Ring_init : FnOk P w (mdOf K).K mg base CX0 3 _ fd_Ring_init ["self", "size", "locks", "walls", "prices"] (sp_Ring_init (mdOf K)) := ok_Ring_init (M := mdOf K) F_Ring_init B G W C_is_integer C_is_ascending C_checked_prices
  -- keyword-only parameters: no binding by places alone
  have k_C_mk_Ring_1_locks_walls_prices : KBn K fd_Ring_init ["self", "size", "locks", "walls", "prices"] 2 ["locks", "walls", "prices"] (fun us ws => [us.getD 0 .none, us.getD 1 .none, ws.getD 0 .none, ws.getD 1 .none, ws.getD 2 .none]) (mk_Ring_1_locks_walls_prices_g (mdOf K)) := FunD.kb F_Ring_init 2 ["locks", "walls", "prices"] _ _ (fun r z => .cons (vals_getD r 0) (.cons (vals_getD r 1) (.cons (vals_getD z 0) (.cons (vals_getD z 1) (.cons (vals_getD z 2) (.nil)))))) fun _ _ _ _ _ _ us ws l1 l2 => match us, l1, ws, l2 with | [_, _], _, [_, _, _], _ => rfl
  have C_mk_Ring_1_locks_walls_prices : MkK P w (mdOf K).K mg base "Ring" (mdOf K).ring 3 1 ["locks", "walls", "prices"] (sp_Ring_init (mdOf K)) (mk_Ring_1_locks_walls_prices_g (mdOf K)) := ⟨⟨_, fd_Ring_init, _, _, He.mkr_ok (c.fact 59 (f := .mkr "Ring") rfl), O_Ring_init, He.glo_ok X Gn (c.fact 57 (f := .glo "Ring") rfl), k_C_mk_Ring_1_locks_walls_prices⟩⟩
  have O_read_number : FnOk P w (mdOf K).K mg base CX0 1 _ fd_read_number ["text", "start"] (sp_read_number (mdOf K)) := ok_read_number (M := mdOf K) F_read_number B G W 
  have b_read_number : Binds K fd_read_number ["text", "start"] [] := F_read_number.bindsN fun _ _ _ _ _ _ us hl => match us, hl with | [_, _], _ => rfl
  have C_read_number : Cal P w (mdOf K).K mg base "read_number" 1 ["text", "start"] (sp_read_number (mdOf K)) := ⟨⟨_, fd_read_number, O_read_number, He.glo_ok X Gn (c.fact 6 (f := .glo "read_number") rfl), F_read_number.kp, b_read_number⟩⟩
  have O_numbers_of : FnOk P w (mdOf K).K mg base CX0 2 _ fd_numbers_of ["words"] (sp_numbers_of (mdOf K)) := ok_numbers_of (M := mdOf K) F_numbers_of B G W C_read_number
  have b_numbers_of : Binds K fd_numbers_of ["words"] [] := F_numbers_of.bindsN fun _ _ _ _ _ _ us hl => match us, hl with | [_], _ => rfl
  have C_numbers_of : Cal P w (mdOf K).K mg base "numbers_of" 2 ["words"] (sp_numbers_of (mdOf K)) := ⟨⟨_, fd_numbers_of, O_numbers_of, He.glo_ok X Gn (c.fact 7 (f := .glo "numbers_of") rfl), F_numbers_of.kp, b_numbers_of⟩⟩
  have O_read_ring : FnOk P w (mdOf K).K mg base CX0 5 _ fd_read_ring ["text"] (sp_read_ring (mdOf K)) := ok_read_ring (M := mdOf K) F_read_ring B G W C_numbers_of C_mk_Ring_1_locks_walls_prices
  have b_read_ring : Binds K fd_read_ring ["text"] [] := F_read_ring.bindsN fun _ _ _ _ _ _ us hl => match us, hl with | [_], _ => rfl
  have C_read_ring : Cal P w (mdOf K).K mg base "read_ring" 5 ["text"] (sp_read_ring (mdOf K)) := ⟨⟨_, fd_read_ring, O_read_ring, He.glo_ok X Gn (c.fact 8 (f := .glo "read_ring") rfl), F_read_ring.kp, b_read_ring⟩⟩
  have O_Ring_str : FnOk P w (mdOf K).K mg base CX0 1 _ fd_Ring_str ["self"] (sp_Ring_str (mdOf K)) := ok_Ring_str (M := mdOf K) F_Ring_str B G W 
  have b_Ring_str : Binds K fd_Ring_str ["self"] [] := F_Ring_str.bindsN fun _ _ _ _ _ _ us hl => match us, hl with | [_], _ => rfl
  have D_Ring_str : Dun P w (mdOf K).K mg base (mdOf K).ring "__str__" 1 (sp_Ring_str (mdOf K)) := ⟨⟨_, fd_Ring_str, _, O_Ring_str, (He.meth_ok (c.fact 71 (f := .meth "Ring" "__str__") rfl)).at_, (He.meth_ok (c.fact 71 (f := .meth "Ring" "__str__") rfl)).fn, b_Ring_str⟩⟩
  have O_parse_ring : FnOk P w (mdOf K).K mg base CX0 6 _ fd_parse_ring ["text"] (sp_parse_ring (mdOf K)) := ok_parse_ring (M := mdOf K) F_parse_ring B G W C_read_ring D_Ring_str
  have b_parse_ring : Binds K fd_parse_ring ["text"] [] := F_parse_ring.bindsN fun _ _ _ _ _ _ us hl => match us, hl with | [_], _ => rfl
  have C_parse_ring : Cal P w (mdOf K).K mg base "parse_ring" 6 ["text"] (sp_parse_ring (mdOf K)) := ⟨⟨_, fd_parse_ring, O_parse_ring, He.glo_ok X Gn (c.fact 9 (f := .glo "parse_ring") rfl), F_parse_ring.kp, b_parse_ring⟩⟩
  have O_law_circle : FnOk P w (mdOf K).K mg base CX0 7 _ fd_law_circle ["_law_source_here", "_law_land_here"] (sp_law_circle (mdOf K)) := ok_law_circle (M := mdOf K) F_law_circle B G W C_law_draw C_mk_Ring_1_locks_walls_prices C_parse_ring
  have b_law_circle : Binds K fd_law_circle ["_law_source_here", "_law_land_here"] [] := F_law_circle.bindsN fun _ _ _ _ _ _ us hl => match us, hl with | [_, _], _ => rfl
  have C_law_circle : Cal P w (mdOf K).K mg base "_law_circle" 7 ["_law_source_here", "_law_land_here"] (sp_law_circle (mdOf K)) := ⟨⟨_, fd_law_circle, O_law_circle, He.glo_ok X Gn (c.fact 10 (f := .glo "_law_circle") rfl), F_law_circle.kp, b_law_circle⟩⟩
  have O_law_some : FnOk P w (mdOf K).K mg base CX0 2 _ fd_law_some ["_law_source_here", "_law_orders_here", "_law_most"] (sp_law_some (mdOf K)) := ok_law_some (M := mdOf K) F_law_some B G W C_law_draw
  have b_law_some : Binds K fd_law_some ["_law_source_here", "_law_orders_here", "_law_most"] [] := F_law_some.bindsN fun _ _ _ _ _ _ us hl => match us, hl with | [_, _, _], _ => rfl
  have C_law_some : Cal P w (mdOf K).K mg base "_law_some" 2 ["_law_source_here", "_law_orders_here", "_law_most"] (sp_law_some (mdOf K)) := ⟨⟨_, fd_law_some, O_law_some, He.glo_ok X Gn (c.fact 11 (f := .glo "_law_some") rfl), F_law_some.kp, b_law_some⟩⟩
  have O_law_orders : FnOk P w (mdOf K).K mg base CX0 1 _ fd_law_orders ["_law_land_here"] (sp_law_orders (mdOf K)) := ok_law_orders (M := mdOf K) F_law_orders B G W 
  have b_law_orders : Binds K fd_law_orders ["_law_land_here"] [] := F_law_orders.bindsN fun _ _ _ _ _ _ us hl => match us, hl with | [_], _ => rfl
  have C_law_orders : Cal P w (mdOf K).K mg base "_law_orders" 1 ["_law_land_here"] (sp_law_orders (mdOf K)) := ⟨⟨_, fd_law_orders, O_law_orders, He.glo_ok X Gn (c.fact 12 (f := .glo "_law_orders") rfl), F_law_orders.kp, b_law_orders⟩⟩
  have O_check_ring : FnOk P w (mdOf K).K mg base CX0 1 _ fd_check_ring ["ring"] (sp_check_ring (mdOf K)) := ok_check_ring (M := mdOf K) F_check_ring B G W 
  have b_check_ring : Binds K fd_check_ring ["ring"] [] := F_check_ring.bindsN fun _ _ _ _ _ _ us hl => match us, hl with | [_], _ => rfl
  have C_check_ring : Cal P w (mdOf K).K mg base "check_ring" 1 ["ring"] (sp_check_ring (mdOf K)) := ⟨⟨_, fd_check_ring, O_check_ring, He.glo_ok X Gn (c.fact 13 (f := .glo "check_ring") rfl), F_check_ring.kp, b_check_ring⟩⟩
  have O_is_content : FnOk P w (mdOf K).K mg base CX0 1 _ fd_is_content ["ring", "value"] (sp_is_content (mdOf K)) := ok_is_content (M := mdOf K) F_is_content B G W 
  have b_is_content : Binds K fd_is_content ["ring", "value"] [] := F_is_content.bindsN fun _ _ _ _ _ _ us hl => match us, hl with | [_, _], _ => rfl
  have C_is_content : Cal P w (mdOf K).K mg base "is_content" 1 ["ring", "value"] (sp_is_content (mdOf K)) := ⟨⟨_, fd_is_content, O_is_content, He.glo_ok X Gn (c.fact 14 (f := .glo "is_content") rfl), F_is_content.kp, b_is_content⟩⟩
  have O_check_content : FnOk P w (mdOf K).K mg base CX0 2 _ fd_check_content ["ring", "content"] (sp_check_content (mdOf K)) := ok_check_content (M := mdOf K) F_check_content B G W C_is_content
  have b_check_content : Binds K fd_check_content ["ring", "content"] [] := F_check_content.bindsN fun _ _ _ _ _ _ us hl => match us, hl with | [_, _], _ => rfl
  have C_check_content : Cal P w (mdOf K).K mg base "check_content" 2 ["ring", "content"] (sp_check_content (mdOf K)) := ⟨⟨_, fd_check_content, O_check_content, He.glo_ok X Gn (c.fact 15 (f := .glo "check_content") rfl), F_check_content.kp, b_check_content⟩⟩
  have O_Recorder_init : FnOk P w (mdOf K).K mg base CX0 3 _ fd_Recorder_init ["self", "ring", "content"] (sp_Recorder_init (mdOf K)) := ok_Recorder_init (M := mdOf K) F_Recorder_init B G W C_check_ring C_check_content
  have b_Recorder_init : Binds K fd_Recorder_init ["self", "ring", "content"] [] := F_Recorder_init.bindsN fun _ _ _ _ _ _ us hl => match us, hl with | [_, _, _], _ => rfl
  have C_mk_Recorder_2 : MkC P w (mdOf K).K mg base "Recorder" (mdOf K).recd 3 (sp_Recorder_init (mdOf K)) := ⟨⟨_, fd_Recorder_init, _, He.mkr_ok (c.fact 65 (f := .mkr "Recorder") rfl), O_Recorder_init, He.glo_ok X Gn (c.fact 56 (f := .glo "Recorder") rfl), b_Recorder_init⟩⟩
  have k_C_mk_Recorder_0_content_ring : KBn K fd_Recorder_init ["self", "ring", "content"] 1 ["content", "ring"] (fun us ws => [us.getD 0 .none, ws.getD 1 .none, ws.getD 0 .none]) (mk_Recorder_0_content_ring_g (mdOf K)) := FunD.kb F_Recorder_init 1 ["content", "ring"] _ _ (fun r z => .cons (vals_getD r 0) (.cons (vals_getD z 1) (.cons (vals_getD z 0) (.nil)))) fun _ _ _ _ _ _ us ws l1 l2 => match us, l1, ws, l2 with | [_], _, [_, _], _ => rfl
  have C_mk_Recorder_0_content_ring : MkK P w (mdOf K).K mg base "Recorder" (mdOf K).recd 3 0 ["content", "ring"] (sp_Recorder_init (mdOf K)) (mk_Recorder_0_content_ring_g (mdOf K)) := ⟨⟨_, fd_Recorder_init, _, _, He.mkr_ok (c.fact 65 (f := .mkr "Recorder") rfl), O_Recorder_init, He.glo_ok X Gn (c.fact 56 (f := .glo "Recorder") rfl), k_C_mk_Recorder_0_content_ring⟩⟩
  have O_Recorder_len : FnOk P w (mdOf K).K mg base CX0 1 _ fd_Recorder_len ["self"] (sp_Recorder_len (mdOf K)) := ok_Recorder_len (M := mdOf K) F_Recorder_len B G W 
  have b_Recorder_len : Binds K fd_Recorder_len ["self"] [] := F_Recorder_len.bindsN fun _ _ _ _ _ _ us hl => match us, hl with | [_], _ => rfl
  have D_Recorder_len : Dun P w (mdOf K).K mg base (mdOf K).recd "__len__" 1 (sp_Recorder_len (mdOf K)) := ⟨⟨_, fd_Recorder_len, _, O_Recorder_len, (He.meth_ok (c.fact 72 (f := .meth "Recorder" "__len__") rfl)).at_, (He.meth_ok (c.fact 72 (f := .meth "Recorder" "__len__") rfl)).fn, b_Recorder_len⟩⟩
  have O_Recorder_spent : FnOk P w (mdOf K).K mg base CX0 1 _ fd_Recorder_spent ["self"] (sp_Recorder_spent (mdOf K)) := ok_Recorder_spent (M := mdOf K) F_Recorder_spent B G W 
  have b_Recorder_spent : Binds K fd_Recorder_spent ["self"] [] := F_Recorder_spent.bindsN fun _ _ _ _ _ _ us hl => match us, hl with | [_], _ => rfl
  have C_Recorder_spent : MCal P w (mdOf K).K mg base (mdOf K).recd "spent" 1 ["self"] (sp_Recorder_spent (mdOf K)) := ⟨⟨_, fd_Recorder_spent, O_Recorder_spent, He.meth_ok (c.fact 73 (f := .meth "Recorder" "spent") rfl), He.cls_ok (c.fact 64 (f := .cls "Recorder") rfl), b_Recorder_spent⟩⟩
  have O_identity_of : FnOk P w (mdOf K).K mg base CX0 1 _ fd_identity_of ["ring"] (sp_identity_of (mdOf K)) := ok_identity_of (M := mdOf K) F_identity_of B G W 
  have b_identity_of : Binds K fd_identity_of ["ring"] [] := F_identity_of.bindsN fun _ _ _ _ _ _ us hl => match us, hl with | [_], _ => rfl
  have C_identity_of : Cal P w (mdOf K).K mg base "identity_of" 1 ["ring"] (sp_identity_of (mdOf K)) := ⟨⟨_, fd_identity_of, O_identity_of, He.glo_ok X Gn (c.fact 16 (f := .glo "identity_of") rfl), F_identity_of.kp, b_identity_of⟩⟩
  have O_is_pair : FnOk P w (mdOf K).K mg base CX0 1 _ fd_is_pair ["part"] (sp_is_pair (mdOf K)) := ok_is_pair (M := mdOf K) F_is_pair B G W 
  have b_is_pair : Binds K fd_is_pair ["part"] [] := F_is_pair.bindsN fun _ _ _ _ _ _ us hl => match us, hl with | [_], _ => rfl
  have C_is_pair : Cal P w (mdOf K).K mg base "is_pair" 1 ["part"] (sp_is_pair (mdOf K)) := ⟨⟨_, fd_is_pair, O_is_pair, He.glo_ok X Gn (c.fact 17 (f := .glo "is_pair") rfl), F_is_pair.kp, b_is_pair⟩⟩
  have O_after : FnOk P w (mdOf K).K mg base CX0 1 _ fd_after ["mapping", "instruction", "size"] (sp_after (mdOf K)) := ok_after (M := mdOf K) F_after B G W 
  have b_after : Binds K fd_after ["mapping", "instruction", "size"] [] := F_after.bindsN fun _ _ _ _ _ _ us hl => match us, hl with | [_, _, _], _ => rfl
  have C_after : Cal P w (mdOf K).K mg base "after" 1 ["mapping", "instruction", "size"] (sp_after (mdOf K)) := ⟨⟨_, fd_after, O_after, He.glo_ok X Gn (c.fact 18 (f := .glo "after") rfl), F_after.kp, b_after⟩⟩
  have O_effect_of : FnOk P w (mdOf K).K mg base CX0 2 _ fd_effect_of ["ring", "program"] (sp_effect_of (mdOf K)) := ok_effect_of (M := mdOf K) F_effect_of B G W C_identity_of C_is_pair C_after
  have b_effect_of : Binds K fd_effect_of ["ring", "program"] [] := F_effect_of.bindsN fun _ _ _ _ _ _ us hl => match us, hl with | [_, _], _ => rfl
  have C_effect_of : Cal P w (mdOf K).K mg base "effect_of" 2 ["ring", "program"] (sp_effect_of (mdOf K)) := ⟨⟨_, fd_effect_of, O_effect_of, He.glo_ok X Gn (c.fact 19 (f := .glo "effect_of") rfl), F_effect_of.kp, b_effect_of⟩⟩
  have O_Recorder_recorded : FnOk P w (mdOf K).K mg base CX0 1 _ fd_Recorder_recorded ["self"] (sp_Recorder_recorded (mdOf K)) := ok_Recorder_recorded (M := mdOf K) F_Recorder_recorded B G W 
  have b_Recorder_recorded : Binds K fd_Recorder_recorded ["self"] [] := F_Recorder_recorded.bindsN fun _ _ _ _ _ _ us hl => match us, hl with | [_], _ => rfl
  have C_Recorder_recorded : MCal P w (mdOf K).K mg base (mdOf K).recd "recorded" 1 ["self"] (sp_Recorder_recorded (mdOf K)) := ⟨⟨_, fd_Recorder_recorded, O_Recorder_recorded, He.meth_ok (c.fact 74 (f := .meth "Recorder" "recorded") rfl), He.cls_ok (c.fact 64 (f := .cls "Recorder") rfl), b_Recorder_recorded⟩⟩
  have O_Recorder_sources : FnOk P w (mdOf K).K mg base CX0 3 _ fd_Recorder_sources ["self"] (sp_Recorder_sources (mdOf K)) := ok_Recorder_sources (M := mdOf K) F_Recorder_sources B G W C_effect_of C_Recorder_recorded
  have b_Recorder_sources : Binds K fd_Recorder_sources ["self"] [] := F_Recorder_sources.bindsN fun _ _ _ _ _ _ us hl => match us, hl with | [_], _ => rfl
  have C_Recorder_sources : MCal P w (mdOf K).K mg base (mdOf K).recd "sources" 3 ["self"] (sp_Recorder_sources (mdOf K)) := ⟨⟨_, fd_Recorder_sources, O_Recorder_sources, He.meth_ok (c.fact 75 (f := .meth "Recorder" "sources") rfl), He.cls_ok (c.fact 64 (f := .cls "Recorder") rfl), b_Recorder_sources⟩⟩
  have O_Recorder_held : FnOk P w (mdOf K).K mg base CX0 1 _ fd_Recorder_held ["self"] (sp_Recorder_held (mdOf K)) := ok_Recorder_held (M := mdOf K) F_Recorder_held B G W 
  have b_Recorder_held : Binds K fd_Recorder_held ["self"] [] := F_Recorder_held.bindsN fun _ _ _ _ _ _ us hl => match us, hl with | [_], _ => rfl
  have C_Recorder_held : MCal P w (mdOf K).K mg base (mdOf K).recd "held" 1 ["self"] (sp_Recorder_held (mdOf K)) := ⟨⟨_, fd_Recorder_held, O_Recorder_held, He.meth_ok (c.fact 76 (f := .meth "Recorder" "held") rfl), He.cls_ok (c.fact 64 (f := .cls "Recorder") rfl), b_Recorder_held⟩⟩
  have O_Recorder_str : FnOk P w (mdOf K).K mg base CX0 1 _ fd_Recorder_str ["self"] (sp_Recorder_str (mdOf K)) := ok_Recorder_str (M := mdOf K) F_Recorder_str B G W 
  have b_Recorder_str : Binds K fd_Recorder_str ["self"] [] := F_Recorder_str.bindsN fun _ _ _ _ _ _ us hl => match us, hl with | [_], _ => rfl
  have D_Recorder_str : Dun P w (mdOf K).K mg base (mdOf K).recd "__str__" 1 (sp_Recorder_str (mdOf K)) := ⟨⟨_, fd_Recorder_str, _, O_Recorder_str, (He.meth_ok (c.fact 77 (f := .meth "Recorder" "__str__") rfl)).at_, (He.meth_ok (c.fact 77 (f := .meth "Recorder" "__str__") rfl)).fn, b_Recorder_str⟩⟩
  have O_Recorder_repr : FnOk P w (mdOf K).K mg base CX0 4 _ fd_Recorder_repr ["self"] (sp_Recorder_repr (mdOf K)) := ok_Recorder_repr (M := mdOf K) F_Recorder_repr B G W D_Recorder_str
  have b_Recorder_repr : Binds K fd_Recorder_repr ["self"] [] := F_Recorder_repr.bindsN fun _ _ _ _ _ _ us hl => match us, hl with | [_], _ => rfl
  have D_Recorder_repr : Dun P w (mdOf K).K mg base (mdOf K).recd "__repr__" 4 (sp_Recorder_repr (mdOf K)) := ⟨⟨_, fd_Recorder_repr, _, O_Recorder_repr, (He.meth_ok (c.fact 78 (f := .meth "Recorder" "__repr__") rfl)).at_, (He.meth_ok (c.fact 78 (f := .meth "Recorder" "__repr__") rfl)).fn, b_Recorder_repr⟩⟩
  have O_law_state : FnG P w (mdOf K).K mg base 6 _ fd_law_state ["_law_recorder"] (sp_law_state (mdOf K)) := ok_law_state (M := mdOf K) F_law_state B G W D_Recorder_len C_Recorder_spent C_Recorder_sources C_Recorder_recorded C_Recorder_held D_Ring_str D_Recorder_repr D_Recorder_str
  have b_law_state : Binds K fd_law_state ["_law_recorder"] [] := F_law_state.bindsN fun _ _ _ _ _ _ us hl => match us, hl with | [_], _ => rfl
  have C_law_state : CalG P w (mdOf K).K mg base "_law_state" 6 ["_law_recorder"] (sp_law_state (mdOf K)) := ⟨⟨_, fd_law_state, O_law_state, He.glo_ok X Gn (c.fact 20 (f := .glo "_law_state") rfl), F_law_state.kp, b_law_state⟩⟩
  have O_law_copied : FnOk P w (mdOf K).K mg base CX0 1 _ fd_law_copied ["_law_values", "_law_order"] (sp_law_copied (mdOf K)) := ok_law_copied (M := mdOf K) F_law_copied B G W 
  have b_law_copied : Binds K fd_law_copied ["_law_values", "_law_order"] [] := F_law_copied.bindsN fun _ _ _ _ _ _ us hl => match us, hl with | [_, _], _ => rfl
  have C_law_copied : Cal P w (mdOf K).K mg base "_law_copied" 1 ["_law_values", "_law_order"] (sp_law_copied (mdOf K)) := ⟨⟨_, fd_law_copied, O_law_copied, He.glo_ok X Gn (c.fact 21 (f := .glo "_law_copied") rfl), F_law_copied.kp, b_law_copied⟩⟩
  have O_law_due : FnG P w (mdOf K).K mg base 4 _ fd_law_due ["_law_land_here", "_law_circle_here", "_law_first", "_law_done"] (sp_law_due (mdOf K)) := ok_law_due (M := mdOf K) F_law_due B G W C_law_copied D_Ring_str
  have b_law_due : Binds K fd_law_due ["_law_land_here", "_law_circle_here", "_law_first", "_law_done"] [] := F_law_due.bindsN fun _ _ _ _ _ _ us hl => match us, hl with | [_, _, _, _], _ => rfl
  have C_law_due : CalG P w (mdOf K).K mg base "_law_due" 4 ["_law_land_here", "_law_circle_here", "_law_first", "_law_done"] (sp_law_due (mdOf K)) := ⟨⟨_, fd_law_due, O_law_due, He.glo_ok X Gn (c.fact 22 (f := .glo "_law_due") rfl), F_law_due.kp, b_law_due⟩⟩
  have O_Ring_allows : FnOk P w (mdOf K).K mg base CX0 2 _ fd_Ring_allows ["self", "value"] (sp_Ring_allows (mdOf K)) := ok_Ring_allows (M := mdOf K) F_Ring_allows B G W C_is_integer
  have b_Ring_allows : Binds K fd_Ring_allows ["self", "value"] [] := F_Ring_allows.bindsN fun _ _ _ _ _ _ us hl => match us, hl with | [_, _], _ => rfl
  have C_Ring_allows : MCal P w (mdOf K).K mg base (mdOf K).ring "allows" 2 ["self", "value"] (sp_Ring_allows (mdOf K)) := ⟨⟨_, fd_Ring_allows, O_Ring_allows, He.meth_ok (c.fact 79 (f := .meth "Ring" "allows") rfl), He.cls_ok (c.fact 58 (f := .cls "Ring") rfl), b_Ring_allows⟩⟩
  have O_letters_of : FnOk P w (mdOf K).K mg base CX0 1 _ fd_letters_of ["mapping", "content"] (sp_letters_of (mdOf K)) := ok_letters_of (M := mdOf K) F_letters_of B G W 
  have b_letters_of : Binds K fd_letters_of ["mapping", "content"] [] := F_letters_of.bindsN fun _ _ _ _ _ _ us hl => match us, hl with | [_, _], _ => rfl
  have C_letters_of : Cal P w (mdOf K).K mg base "letters_of" 1 ["mapping", "content"] (sp_letters_of (mdOf K)) := ⟨⟨_, fd_letters_of, O_letters_of, He.glo_ok X Gn (c.fact 23 (f := .glo "letters_of") rfl), F_letters_of.kp, b_letters_of⟩⟩
  have O_Recorder_write : FnOk P w (mdOf K).K mg base CX0 3 _ fd_Recorder_write ["self", "instruction"] (sp_Recorder_write (mdOf K)) := ok_Recorder_write (M := mdOf K) F_Recorder_write B G W C_Ring_allows C_letters_of C_after C_identity_of
  have b_Recorder_write : Binds K fd_Recorder_write ["self", "instruction"] [] := F_Recorder_write.bindsN fun _ _ _ _ _ _ us hl => match us, hl with | [_, _], _ => rfl
  have C_Recorder_write : MCal P w (mdOf K).K mg base (mdOf K).recd "write" 3 ["self", "instruction"] (sp_Recorder_write (mdOf K)) := ⟨⟨_, fd_Recorder_write, O_Recorder_write, He.meth_ok (c.fact 80 (f := .meth "Recorder" "write") rfl), He.cls_ok (c.fact 64 (f := .cls "Recorder") rfl), b_Recorder_write⟩⟩
  have k_C_Recorder_write_K : KBn K fd_Recorder_write ["self", "instruction"] 1 ["instruction"] (fun us ws => us ++ ws) appG := FunD.kb F_Recorder_write 1 ["instruction"] _ _ (fun r z => r.append z) fun _ _ _ _ _ _ us ws l1 l2 => match us, l1, ws, l2 with | [_], _, [_], _ => rfl
  have C_Recorder_write_K : MCalK P w (mdOf K).K mg base (mdOf K).recd "write" 3 ["instruction"] (sp_Recorder_write (mdOf K)) appG := ⟨⟨_, fd_Recorder_write, _, _, O_Recorder_write, He.meth_ok (c.fact 80 (f := .meth "Recorder" "write") rfl), He.cls_ok (c.fact 64 (f := .cls "Recorder") rfl), k_C_Recorder_write_K⟩⟩
  have O_Ring_eq : FnOk P w (mdOf K).K mg base CX0 1 _ fd_Ring_eq ["self", "other"] (sp_Ring_eq (mdOf K)) := ok_Ring_eq (M := mdOf K) F_Ring_eq B G W 
  have b_Ring_eq : Binds K fd_Ring_eq ["self", "other"] [] := F_Ring_eq.bindsN fun _ _ _ _ _ _ us hl => match us, hl with | [_, _], _ => rfl
  have D_Ring_eq : Dun P w (mdOf K).K mg base (mdOf K).ring "__eq__" 1 (sp_Ring_eq (mdOf K)) := ⟨⟨_, fd_Ring_eq, _, O_Ring_eq, (He.meth_ok (c.fact 81 (f := .meth "Ring" "__eq__") rfl)).at_, (He.meth_ok (c.fact 81 (f := .meth "Ring" "__eq__") rfl)).fn, b_Ring_eq⟩⟩
  have O_Recorder_eq : FnOk P w (mdOf K).K mg base CX0 3 _ fd_Recorder_eq ["self", "other"] (sp_Recorder_eq (mdOf K)) := ok_Recorder_eq (M := mdOf K) F_Recorder_eq B G W D_Ring_eq
  have b_Recorder_eq : Binds K fd_Recorder_eq ["self", "other"] [] := F_Recorder_eq.bindsN fun _ _ _ _ _ _ us hl => match us, hl with | [_, _], _ => rfl
  have D_Recorder_eq : Dun P w (mdOf K).K mg base (mdOf K).recd "__eq__" 3 (sp_Recorder_eq (mdOf K)) := ⟨⟨_, fd_Recorder_eq, _, O_Recorder_eq, (He.meth_ok (c.fact 82 (f := .meth "Recorder" "__eq__") rfl)).at_, (He.meth_ok (c.fact 82 (f := .meth "Recorder" "__eq__") rfl)).fn, b_Recorder_eq⟩⟩
  have O_law_equal_right : FnOk P w (mdOf K).K mg base CX0 6 _ fd_law_equal_right ["_law_land_here", "_law_circle_here", "_law_word", "_law_recorder"] (sp_law_equal_right (mdOf K)) := ok_law_equal_right (M := mdOf K) F_law_equal_right B G W C_mk_Ring_1_locks_walls_prices C_mk_Recorder_2 C_Recorder_held D_Recorder_eq D_Recorder_repr C_Recorder_recorded
  have b_law_equal_right : Binds K fd_law_equal_right ["_law_land_here", "_law_circle_here", "_law_word", "_law_recorder"] [] := F_law_equal_right.bindsN fun _ _ _ _ _ _ us hl => match us, hl with | [_, _, _, _], _ => rfl
  have C_law_equal_right : Cal P w (mdOf K).K mg base "_law_equal_right" 6 ["_law_land_here", "_law_circle_here", "_law_word", "_law_recorder"] (sp_law_equal_right (mdOf K)) := ⟨⟨_, fd_law_equal_right, O_law_equal_right, He.glo_ok X Gn (c.fact 24 (f := .glo "_law_equal_right") rfl), F_law_equal_right.kp, b_law_equal_right⟩⟩
  have O_law_right : FnG P w (mdOf K).K mg base 8 _ fd_law_right ["_law_source_here"] (sp_law_right (mdOf K)) := ok_law_right (M := mdOf K) F_law_right B G W C_law_land C_law_filled C_law_circle C_law_some C_law_orders C_mk_Recorder_2 C_mk_Recorder_0_content_ring C_law_state C_law_due C_Recorder_write C_Recorder_write_K C_law_equal_right
  have b_law_right : Binds K fd_law_right ["_law_source_here"] [] := F_law_right.bindsN fun _ _ _ _ _ _ us hl => match us, hl with | [_], _ => rfl
  have C_law_right : CalG P w (mdOf K).K mg base "_law_right" 8 ["_law_source_here"] (sp_law_right (mdOf K)) := ⟨⟨_, fd_law_right, O_law_right, He.glo_ok X Gn (c.fact 25 (f := .glo "_law_right") rfl), F_law_right.kp, b_law_right⟩⟩
  have O_law_source : FnOk P w (mdOf K).K mg base CX0 1 _ fd_law_source ["_law_cell_here"] (sp_law_source (mdOf K)) := ok_law_source (M := mdOf K) F_law_source B G W 
  have b_law_source : Binds K fd_law_source ["_law_cell_here"] [] := F_law_source.bindsN fun _ _ _ _ _ _ us hl => match us, hl with | [_], _ => rfl
  have C_law_source : Cal P w (mdOf K).K mg base "_law_source" 1 ["_law_cell_here"] (sp_law_source (mdOf K)) := ⟨⟨_, fd_law_source, O_law_source, He.glo_ok X Gn (c.fact 26 (f := .glo "_law_source") rfl), F_law_source.kp, b_law_source⟩⟩
  have O_law_cell : FnOk P w (mdOf K).K mg base CX0 1 _ fd_law_cell ["_law_script", "_law_k"] (sp_law_cell (mdOf K)) := ok_law_cell (M := mdOf K) F_law_cell B G W 
  have b_law_cell : Binds K fd_law_cell ["_law_script", "_law_k"] [] := F_law_cell.bindsN fun _ _ _ _ _ _ us hl => match us, hl with | [_, _], _ => rfl
  have C_law_cell : Cal P w (mdOf K).K mg base "_law_cell" 1 ["_law_script", "_law_k"] (sp_law_cell (mdOf K)) := ⟨⟨_, fd_law_cell, O_law_cell, He.glo_ok X Gn (c.fact 27 (f := .glo "_law_cell") rfl), F_law_cell.kp, b_law_cell⟩⟩
  exact ok_law (M := mdOf K) F_law B G W C_law_right C_law_source C_law_cell
end Crx

set_option maxHeartbeats 4000000
/-! Crx11: the end for a law whose def shows lists. -/
namespace Crx
open PySem PySem.Spec PyProof.Rows L2
theorem walk_ofG {l : PySem.W.OpenLaw} {n k : Nat} {q : Program} {loose : List Str} {XP : (Str → Option Value) → Heap → Prop} {YP : World → Heap → Prop} {d : DefRec} {x : Str} (hn : l.most = some n) (hn2 : n ≤ sizeLine) (hdf : d.params.defaults = []) (hr : Room k callerA)
    (F : ∀ (w : World) (mg : Str → Option Value) (fa : Addr) (h : Heap), YP w h → h.Ns mainGlobals mg → mg d.name = some (.ref fa) →
      ∃ (K : PySem.W.Frag) (fd : FuncData) (sp : Sp), K.In h ∧ (∀ (s : Shared) (u : Value), BindsTo s fd ⟨[u], []⟩ [(x, u)]) ∧
        (∀ (H : Hp) (a : Addr) (ns : List Int), ns.length ≤ n → SqL K H a (ns.map V.int) → sp [.ref a] H (fun v _ => v = .bl true) E0) ∧ ∀ base : Heap, FnG l.prog w K mg base k fa fd [x] sp) :
    PySem.W.WalkO q loose XP YP l.row.toRowW d [] (fun f vs => PySem.call f vs) := by
  apply Att.attach_call hn hdf
  intro w s0 s1 mg mb fa o pm cd doc a vs ns G Y ho hd hcd hmg hobj hints hlen hg
  obtain ⟨K, fd, sp, kin, hb, hsp, hF⟩ := F w mg fa _ Y G.T.g hmg
  have hF' : ∀ base : Heap, K.In base → base.Ns mainGlobals mg → FnG l.prog w K mg base k fa fd [x] sp := fun base _ _ => hF base
  have hsp' : ∀ H : Hp, Only H → SqL K H a (ns.map V.int) → sp [.ref a] H (fun v _ => v = .bl true) E0 := fun H _ hS => hsp H a ns hlen hS
  exact law_callG kin G.T.g G.T.b G.T.builtins G.T.nolimit hg hobj hints (Nat.le_trans hlen hn2) hr hF' hb hsp'
end Crx

set_option maxHeartbeats 0
open PySem PySem.W PySem.Calls PyProof.Rows
theorem PySem.Challenge.cw_copyring_k65_instructions_recorded_holds : PySem.Challenge.rw_copyring_k65_instructions_recorded.Holds := by
  w_on; o_law
  refine HandSHeadRun.head_any (r := OpenLaw.row PySem.Challenge.rw_copyring_k65_instructions_recorded) (q := view (OpenLaw.row PySem.Challenge.rw_copyring_k65_instructions_recorded).prog [62]) (H := Crx.hk) (ob := Crx.ob) (M := 8000) (loose := _) (d := HandSHeadRun.topDef (OpenLaw.row PySem.Challenge.rw_copyring_k65_instructions_recorded).prog 62) (kwd := []) Crx.ob_eq
    (by kernel_rfl) (fun s => by kernel_rfl) Crx.run (by kernel_rfl) (by kernel_rfl) (by kernel_rfl) (by rfl) (by first | assumption | decide +kernel) (by decide +kernel) ⟨rfl, rfl, rfl, rfl, rfl, by decide +kernel⟩ ?hw ?hc
  case hw => w_witness2
  case hc =>
    refine Crx.walk_ofG (l := PySem.Challenge.rw_copyring_k65_instructions_recorded) (n := 63) (k := 9) (x := "_law_script") rfl (by decide) (by kernel_rfl) ⟨rfl, by decide, by decide⟩ ?F
    intro w mg fa h Y G hmg0
    obtain ⟨K, KX, cx, c⟩ := Y
    have hmg : mg ("law" : PySem.Str) = some (.ref fa) := by
      have e : (HandSHeadRun.topDef (OpenLaw.row PySem.Challenge.rw_copyring_k65_instructions_recorded).prog 62).name = ("law" : PySem.Str) := by kernel_rfl
      rw [← e]
      exact hmg0
    obtain ⟨fd, hb, hF⟩ := Crx.facts (P := (PySem.Challenge.rw_copyring_k65_instructions_recorded).prog) (w := w) KX G hmg cx c
    exact ⟨K, fd, Crx.sp_law (Crx.mdOf K), KX, hb, fun H a ns hl hS => ⟨a, ns, rfl, hS, fun v H' _ e => e⟩, hF⟩
#print axioms PySem.Challenge.cw_copyring_k65_instructions_recorded_holds
