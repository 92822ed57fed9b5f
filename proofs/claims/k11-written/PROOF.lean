import PyProof.Rows.All
import Wide.All
import OpenK.AllK
import Wide.FinOn
import HandS.Base
import HandS.Call
import HandS.List
import HandS.Comp
import HandS.Ends
import HandS.Words
import HandS.WordsList
import HandS.Iter
import HandS.Text
import HandS.Codes
import PyProof.StrBlock2
import HandS.Wide
import HandS.IsInst
import HandS.Defaults
import HandS.Head0
import HandS.Head1
import HandS.Head2
import HandS.HeadEnd
import HandS.HeadHook1
import HandS.HeadHook2
import HandS.Rev
import PySem.Challenge.RW_echofield_k11_written
set_option Elab.async false
set_option linter.all false
set_option maxRecDepth 100000
set_option maxHeartbeats 4000000

namespace Ef
/-! Fractions: what the two halves of a tuple in lowest terms are worth. -/
theorem gcd_comm_pos {t : Int} {b : Nat} : b.gcd t.natAbs = t.natAbs.gcd b := Nat.gcd_comm _ _
theorem num_mk {t : Int} {b : Nat} (hb : b ≠ 0) : (mkRat t b).num = t / ((t.natAbs.gcd b : Nat) : Int) := by
  rw [Rat.num_mkRat, if_neg hb, Nat.gcd_comm]
theorem den_mk {t : Int} {b : Nat} (hb : b ≠ 0) : (mkRat t b).den = b / (t.natAbs.gcd b) := by
  rw [Rat.den_mkRat, if_neg hb, Nat.gcd_comm]
theorem sum_mk (p q : Rat) : mkRat (p.num * q.den + q.num * p.den) (p.den * q.den) = p + q := (Rat.add_def' p q).symm
theorem dif_mk (p q : Rat) : mkRat (p.num * q.den - q.num * p.den) (p.den * q.den) = p - q := (Rat.sub_def' p q).symm
theorem mul_mk (p q : Rat) : mkRat (p.num * q.num) (p.den * q.den) = p * q := (Rat.mul_def' p q).symm
theorem over_mk (p q : Rat) : Rat.divInt (p.num * q.den) (p.den * q.num) = p / q := by
  have h := Rat.divInt_mul_divInt p.num q.den (d₁ := p.den) (d₂ := q.num)
  rw [← h, Rat.num_divInt_den, ← Rat.inv_divInt, Rat.num_divInt_den, Rat.div_def]
theorem den_pos (q : Rat) : 0 < q.den := Nat.pos_of_ne_zero q.den_nz
theorem den_posI (q : Rat) : (0 : Int) < (q.den : Int) := Int.natCast_pos.mpr (den_pos q)
/-- small: both halves below the line -/
def Sm (q : Rat) : Prop := q.num.natAbs < 2 ^ 4500 ∧ q.den < 2 ^ 4500
theorem divInt_pos {t b : Int} (h : 0 < b) : Rat.divInt t b = mkRat t b.toNat := by
  obtain ⟨n, rfl⟩ := Int.eq_ofNat_of_zero_le (Int.le_of_lt h)
  rw [Rat.divInt_ofNat]; rfl
theorem divInt_neg {t b : Int} (h : b < 0) : Rat.divInt t b = Rat.divInt (0 - t) (0 - b) := by
  rw [Int.zero_sub, Int.zero_sub, Rat.neg_divInt_neg]
theorem mk_den_le {t : Int} {b : Nat} (hb : b ≠ 0) : (mkRat t b).den ≤ b := by
  rw [den_mk hb]
  exact Nat.div_le_self _ _
theorem mk_num_le {t : Int} {b : Nat} (hb : b ≠ 0) : (mkRat t b).num.natAbs ≤ t.natAbs := by
  rw [num_mk hb]
  have h : ((t.natAbs.gcd b : Nat) : Int) ∣ t := Int.ofNat_dvd_left.mpr (Nat.gcd_dvd_left _ _)
  rw [Int.natAbs_ediv_of_dvd h, Int.natAbs_natCast]
  exact Nat.div_le_self _ _
theorem sm_mk {t : Int} {b : Nat} (hb : b ≠ 0) (h1 : t.natAbs < 2 ^ 4500) (h2 : b < 2 ^ 4500) : Sm (mkRat t b) :=
  ⟨Nat.lt_of_le_of_lt (mk_num_le hb) h1, Nat.lt_of_le_of_lt (mk_den_le hb) h2⟩
end Ef
namespace Ef
open PySem PySem.Spec PyProof.Rows L2
/-! ### fractions in the heap -/
/-- a thing that is never changed -/
def fixO : HO → Bool
  | .lst _ => false
  | .ins _ _ _ => false
  | _ => true
/-- all but lists and instances is as it was -/
def Kt (H H' : Hp) : Prop := ∀ b o, H b = some o → fixO o = true → H' b = some o
theorem Kt.refl (H : Hp) : Kt H H := fun _ _ h _ => h
theorem Kt.trans {H H1 H2 : Hp} (a : Kt H H1) (b : Kt H1 H2) : Kt H H2 := fun c o h z => b c o (a c o h z) z
theorem kt_of {H H' : Hp} (s : Same H H') : Kt H H' := fun b o h _ => s b o h
theorem Kt.set {H : Hp} {l : Addr} {xs ys : List V} (h : H l = some (.lst xs)) : Kt H (upd H l (.lst ys)) := fun b o e z => by
  have nb : b ≠ l := fun q => by
    rw [q, h] at e
    cases Option.some.inj e
    cases z
  rw [upd_ne nb]
  exact e
theorem Kt.obj {H : Hp} {p C dx : Addr} {fs : List (Str × V)} {u : HO} (h : H p = some (.ins C dx fs)) : Kt H (upd H p u) := fun b o e z => by
  have nb : b ≠ p := fun q => by
    rw [q, h] at e
    cases Option.some.inj e
    cases z
  rw [upd_ne nb]
  exact e
theorem Kt.new {H : Hp} {l : Addr} {u : HO} (h : H l = none) : Kt H (upd H l u) := fun b o e _ => by
  rw [upd_ne (ne_of_none e h)]
  exact e
theorem same_new {H : Hp} {l : Addr} {u : HO} (h : H l = none) : Same H (upd H l u) := fun b o e => by
  rw [upd_ne (ne_of_none e h)]
  exact e
theorem Kt.tup {K : PySem.W.Frag} {H H' : Hp} (k : Kt H H') {a : Addr} {xs : List V} (h : SqT K H a xs) : SqT K H' a xs := by
  rcases h with (h | ⟨o, h⟩) | h
  · exact .inl (.inl (k _ _ h rfl))
  · exact .inl (.inr ⟨o, k _ _ h rfl⟩)
  · exact .inr h
/-- at v stands the fraction q in lowest terms -/
def RatAt (K : PySem.W.Frag) (H : Hp) (v : V) (q : Rat) : Prop := ∃ a, v = .ref a ∧ SqT K H a [.int q.num, .int (q.den : Int)]
theorem RatAt.kt {K : PySem.W.Frag} {H H' : Hp} (k : Kt H H') {v : V} {q : Rat} (h : RatAt K H v q) : RatAt K H' v q := by
  obtain ⟨a, e, t⟩ := h
  exact ⟨a, e, k.tup t⟩
theorem RatAt.same {K : PySem.W.Frag} {H H' : Hp} (k : Same H H') {v : V} {q : Rat} (h : RatAt K H v q) : RatAt K H' v q := h.kt (kt_of k)
/-! ### own rules -/
section
variable {X : Cx}
/-- the top, the bottom of the fraction in slot i -/
def tNum (K : PySem.W.Frag) (i : Nat) : TE := fun σ H Q => ∃ v q, σ[i]? = some (some v) ∧ RatAt K H v q ∧ Q (.int q.num) H
def tDen (K : PySem.W.Frag) (i : Nat) : TE := fun σ H Q => ∃ v q, σ[i]? = some (some v) ∧ RatAt K H v q ∧ Q (.int (q.den : Int)) H
theorem pe_num (i : Nat) {x : Str} {p p2 pos : Pos} {j : Nat} (hN : X.N[i]? = some x := by rfl) (hv : Vis X.env.scope x := by first | exact Or.inl rfl | exact Or.inr (Or.inl rfl) | exact Or.inr (Or.inr rfl)) (hd : (x == ("__debug__" : Str)) = false := by decide)
    (hcd : (x == ("__classdict__" : Str)) = false := by decide) : PE X (.Subscript (.Name x p) (.Constant (.int 0) j p2) pos) (tNum X.K i) := by
  refine ⟨fun pins s σ H Q I h => (pe_ix ix_tup (pe_var hN hv hd hcd) pe_int (fun _ _ => rfl)).run pins s σ H Q I ?_⟩
  obtain ⟨v, q, e, ⟨a, rfl, t⟩, h⟩ := h
  exact ⟨_, e, a, _, _, _, rfl, rfl, t, rfl, h⟩
theorem pe_den (i : Nat) {x : Str} {p p2 pos : Pos} {j : Nat} (hN : X.N[i]? = some x := by rfl) (hv : Vis X.env.scope x := by first | exact Or.inl rfl | exact Or.inr (Or.inl rfl) | exact Or.inr (Or.inr rfl)) (hd : (x == ("__debug__" : Str)) = false := by decide)
    (hcd : (x == ("__classdict__" : Str)) = false := by decide) : PE X (.Subscript (.Name x p) (.Constant (.int 1) j p2) pos) (tDen X.K i) := by
  refine ⟨fun pins s σ H Q I h => (pe_ix ix_tup (pe_var hN hv hd hcd) pe_int (fun _ _ => rfl)).run pins s σ H Q I ?_⟩
  obtain ⟨v, q, e, ⟨a, rfl, t⟩, h⟩ := h
  exact ⟨_, e, a, _, _, _, rfl, rfl, t, rfl, h⟩
end
theorem ifT {c : Bool} {A B : Prop} (hc : c = true) (h : A) : if c = true then A else B := by
  rw [if_pos hc]
  exact h
theorem ifF {c : Bool} {A B : Prop} (hc : c = false) (h : B) : if c = true then A else B := by
  rw [hc, if_neg Bool.false_ne_true]
  exact h
theorem if2 {c A B : Prop} [Decidable c] (h1 : c → A) (h2 : ¬ c → B) : if decide c = true then A else B := by
  by_cases h : c
  · exact ifT (decide_eq_true h) (h1 h)
  · exact ifF (decide_eq_false h) (h2 h)
theorem ifB {c : Bool} {A B : Prop} (h1 : c = true → A) (h2 : c = false → B) : if c = true then A else B := by
  cases c with
  | true => exact ifT rfl (h1 rfl)
  | false => exact ifF rfl (h2 rfl)
/-! ### promises of the reckoning -/
/-- common: of two numbers not below nought -/
def spCommon : Sp := fun vs H Q _ => ∃ a b : Nat, vs = [.int a, .int b] ∧ Q (.int (Nat.gcd a b : Nat)) H
/-- fraction: the bottom not nought and below a line -/
def spFraction (K : PySem.W.Frag) : Sp := fun vs H Q _ => ∃ t b : Int, vs = [.int t, .int b] ∧ b ≠ 0 ∧ b.natAbs < 2 ^ 9000 ∧ ∀ p H', Same H H' → RatAt K H' (.ref p) (Rat.divInt t b) → Q (.ref p) H'
/-- the same, the bottom above nought -/
def spLow (K : PySem.W.Frag) : Sp := fun vs H Q _ => ∃ (t : Int) (b : Nat), vs = [.int t, .int b] ∧ b ≠ 0 ∧ b < 2 ^ 9000 ∧ ∀ p H', Same H H' → RatAt K H' (.ref p) (mkRat t b) → Q (.ref p) H'
/-- an operation of two small fractions -/
def spOp2 (K : PySem.W.Frag) (f : Rat → Rat → Rat) : Sp := fun vs H Q _ => ∃ u v p q, vs = [u, v] ∧ RatAt K H u p ∧ RatAt K H v q ∧ Sm p ∧ Sm q ∧ ∀ r H', Same H H' → RatAt K H' (.ref r) (f p q) → Q (.ref r) H'
def spOver (K : PySem.W.Frag) : Sp := fun vs H Q _ => ∃ u v p q, vs = [u, v] ∧ RatAt K H u p ∧ RatAt K H v q ∧ Sm p ∧ Sm q ∧ q ≠ 0 ∧ ∀ r H', Same H H' → RatAt K H' (.ref r) (p / q) → Q (.ref r) H'
theorem sm_mul {a b : Nat} (ha : a < 2 ^ 4500) (hb : b < 2 ^ 4500) : a * b < 2 ^ 9000 := by
  have h : a * b < 2 ^ 4500 * 2 ^ 4500 := Nat.mul_lt_mul'' ha hb
  have e : (2 : Nat) ^ 4500 * 2 ^ 4500 = 2 ^ 9000 := (Nat.pow_add 2 4500 4500).symm
  rw [e] at h
  exact h
theorem cm {i j : Int} (ha : i.natAbs < 2 ^ 4500) (hb : j.natAbs < 2 ^ 4500) : CMulW i j := wide_mul ha hb (by decide) (by decide) (by decide)
theorem natAbs_den (q : Rat) : ((q.den : Int)).natAbs = q.den := Int.natAbs_natCast _
theorem gcd_pos_of {a b : Nat} (hb : b ≠ 0) : 0 < Nat.gcd a b := Nat.gcd_pos_of_pos_right _ (Nat.pos_of_ne_zero hb)
theorem gcd_lt_of {a b n : Nat} (hb : b ≠ 0) (h : b < n) : Nat.gcd a b < n := Nat.lt_of_le_of_lt (Nat.le_of_dvd (Nat.pos_of_ne_zero hb) (Nat.gcd_dvd_right a b)) h
theorem rat_new {K : PySem.W.Frag} {H : Hp} {p : Addr} {q : Rat} {x y : V} (ex : x = .int q.num) (ey : y = .int (q.den : Int)) : RatAt K (upd H p (.tup [x, y])) (.ref p) q := ⟨p, rfl, by rw [ex, ey]; exact SqT.of upd_same⟩
/-! ### lists of fractions -/
def Rats (K : PySem.W.Frag) (H : Hp) (xs : List V) (qs : List Rat) : Prop := xs.length = qs.length ∧ ∀ (i : Nat) (v : V) (q : Rat), xs[i]? = some v → qs[i]? = some q → RatAt K H v q
def RL (K : PySem.W.Frag) (H : Hp) (l : Addr) (qs : List Rat) : Prop := ∃ xs, H l = some (.lst xs) ∧ Rats K H xs qs
section
variable {K : PySem.W.Frag} {H H' : Hp} {xs ys : List V} {qs ps : List Rat} {l : Addr}
theorem Rats.kt (k : Kt H H') (h : Rats K H xs qs) : Rats K H' xs qs := ⟨h.1, fun i v q a b => (h.2 i v q a b).kt k⟩
theorem Rats.nil : Rats K H [] [] := ⟨rfl, fun i v q a _ => by simp at a⟩
theorem Rats.get (h : Rats K H xs qs) {i : Nat} {q : Rat} (e : qs[i]? = some q) : ∃ v, xs[i]? = some v ∧ RatAt K H v q := by
  have hi : i < qs.length := (List.getElem?_eq_some_iff.mp e).1
  have hx : i < xs.length := by rw [h.1]; exact hi
  exact ⟨xs[i], List.getElem?_eq_getElem hx, h.2 i _ q (List.getElem?_eq_getElem hx) e⟩
theorem Rats.set (h : Rats K H xs qs) {i : Nat} {v : V} {q : Rat} (r : RatAt K H v q) : Rats K H (xs.set i v) (qs.set i q) := by
  refine ⟨by rw [List.length_set, List.length_set, h.1], fun j u p a b => ?_⟩
  rw [List.getElem?_set] at a b
  by_cases e : i = j
  · rw [if_pos e] at a b
    split at a
    · split at b
      · cases a
        cases b
        exact r
      · cases b
    · cases a
  · rw [if_neg e] at a b
    exact h.2 j u p a b
theorem Rats.append (h : Rats K H xs qs) (h2 : Rats K H ys ps) : Rats K H (xs ++ ys) (qs ++ ps) := by
  refine ⟨by rw [List.length_append, List.length_append, h.1, h2.1], fun j u p a b => ?_⟩
  rw [List.getElem?_append] at a b
  rw [h.1] at a
  split at a
  · rename_i hj
    rw [if_pos hj] at b
    exact h.2 j u p a b
  · rename_i hj
    rw [if_neg hj] at b
    exact h2.2 _ u p a b
theorem Rats.one {v : V} {q : Rat} (r : RatAt K H v q) : Rats K H [v] [q] := ⟨rfl, fun i u p a b => by
  cases i with
  | zero =>
    cases (Option.some.inj a)
    cases (Option.some.inj b)
    exact r
  | succ i => simp at a⟩
theorem Rats.push (h : Rats K H xs qs) {v : V} {q : Rat} (r : RatAt K H v q) : Rats K H (xs ++ [v]) (qs ++ [q]) := h.append (Rats.one r)
theorem Rats.cons {v : V} {q : Rat} (r : RatAt K H v q) (h : Rats K H xs qs) : Rats K H (v :: xs) (q :: qs) := (Rats.one r).append h
theorem RL.same (k : Same H H') (h : RL K H l qs) : RL K H' l qs := by
  obtain ⟨xs, e, r⟩ := h
  exact ⟨xs, k _ _ e, r.kt (kt_of k)⟩
theorem RL.kt (k : Kt H H') (h : RL K H l qs) (hl : H' l = H l) : RL K H' l qs := by
  obtain ⟨xs, e, r⟩ := h
  exact ⟨xs, hl.trans e, r.kt k⟩
theorem RL.new {p : Addr} (hp : H p = none) (r : Rats K H xs qs) : RL K (upd H p (.lst xs)) p qs := ⟨xs, upd_same, r.kt (Kt.new hp)⟩
theorem RL.upd {xs0 : List V} (h : H l = some (.lst xs0)) (r : Rats K H xs qs) : RL K (upd H l (.lst xs)) l qs := ⟨xs, upd_same, r.kt (Kt.set h)⟩
/-- an item read -/
theorem ixr {Q : VK} {z : Int} {k : Nat} {q : Rat} (h : RL K H l qs) (hq : qs[k]? = some q) (hz : z = (k : Int)) (hQ : ∀ v, RatAt K H v q → Q v H) : rIxL K (.ref l) (.int z) H Q := by
  obtain ⟨xs, e, r⟩ := h
  obtain ⟨v, e2, rv⟩ := r.get hq
  exact ⟨l, xs, z, v, rfl, rfl, SqL.of e, at_of hz e2, hQ v rv⟩
/-- the data of a fraction, of a list of them -/
def dRat (q : Rat) : PyData := .tuple [.int q.num, .int (q.den : Int)]
def dRats (qs : List Rat) : PyData := .list (qs.map dRat)
theorem RatAt.dp {v : V} {q : Rat} (h : RatAt K H v q) : Dp K H v (dRat q) := by
  obtain ⟨a, rfl, t⟩ := h
  exact .tup t (.cons (.int _) (.cons (.int _) .nil))
theorem Rats.dp : ∀ {xs : List V} {qs : List Rat}, Rats K H xs qs → DpAll K H xs (qs.map dRat)
  | [], [], _ => .nil
  | [], _ :: _, h => by cases h.1
  | _ :: _, [], h => by cases h.1
  | v :: xs, q :: qs, h => .cons (h.2 0 v q rfl rfl).dp (Rats.dp ⟨Nat.succ.inj h.1, fun i u p a b => h.2 (i + 1) u p a b⟩)
theorem RL.dp (h : RL K H l qs) : Dp K H (.ref l) (dRats qs) := by
  obtain ⟨xs, e, r⟩ := h
  exact .lst (SqL.of e) r.dp
theorem rat_ext {p q : Rat} (h1 : p.num = q.num) (h2 : (p.den : Int) = (q.den : Int)) : p = q := Rat.ext h1 (Int.ofNat.inj h2)
theorem eqv_rat (p q : Rat) : PyData.eqv (dRat p) (dRat q) = decide (p = q) := by
  show ((p.num == q.num) && (((p.den : Int) == (q.den : Int)) && true)) = decide (p = q)
  rw [Bool.and_true]
  by_cases e : p = q
  · subst e
    simp
  · rw [decide_eq_false e]
    refine Bool.eq_false_iff.mpr fun z => e ?_
    obtain ⟨z1, z2⟩ := Bool.and_eq_true_iff.mp z
    exact rat_ext (eq_of_beq z1) (eq_of_beq z2)
theorem eqv_all : ∀ (ps qs : List Rat), PyData.eqvAll (ps.map dRat) (qs.map dRat) = decide (ps = qs)
  | [], [] => rfl
  | [], _ :: _ => rfl
  | _ :: _, [] => rfl
  | p :: ps, q :: qs => by
    show (PyData.eqv (dRat p) (dRat q) && PyData.eqvAll (ps.map dRat) (qs.map dRat)) = _
    rw [eqv_rat, eqv_all ps qs]
    by_cases e : p = q
    · subst e
      by_cases e2 : ps = qs
      · subst e2
        simp
      · simp [e2]
    · simp [e]
theorem eqv_rats (ps qs : List Rat) : PyData.eqv (dRats ps) (dRats qs) = decide (ps = qs) := eqv_all ps qs
theorem sh_rat (q : Rat) : SeqAt.shaped (dRat q) = true := by rfl
end
end Ef
namespace Ef
open PySem PySem.Spec PyProof.Rows L2
theorem can_rats : ∀ qs : List Rat, PyData.canLayAll0 (qs.map dRat) = true
  | [] => rfl
  | q :: qs => by
    show (PyData.canLay0 (dRat q) && PyData.canLayAll0 (qs.map dRat)) = true
    rw [can_rats qs]
    rfl
theorem dep_rats : ∀ qs : List Rat, PyData.depthAll (qs.map dRat) ≤ 1
  | [] => by decide
  | q :: qs => by
    show max (PyData.depth (dRat q)) (PyData.depthAll (qs.map dRat)) ≤ 1
    have h1 : PyData.depth (dRat q) = 1 := rfl
    have h2 := dep_rats qs
    rw [h1]
    omega
theorem sh_rats (qs : List Rat) : SeqAt.shaped (dRats qs) = true := by
  have h1 : PyData.canLay0 (dRats qs) = true := can_rats qs
  have h2 : PyData.depth (dRats qs) ≤ 64 := by
    show PyData.depthAll (qs.map dRat) + 1 ≤ 64
    have := dep_rats qs
    omega
  show (PyData.canLay0 (dRats qs) && decide (PyData.depth (dRats qs) ≤ 64)) = true
  rw [h1, decide_eq_true h2]
  rfl
/-! ### defs by name -/
abbrev FnP (K : PySem.W.Frag) (x q : Str) (st : Stmt) (f : Addr) (fd : FuncData) : Prop := FunD K x q (defArgs st) (defBody st) (defScope st) [] [] f fd
/-- the def x of the module stands as the statement st -/
def Df (K : PySem.W.Frag) (mg : Str → Option Value) (x : Str) (st : Stmt) : Prop := ∃ f fd, FnP K x x st f fd ∧ mg x = some (.ref f)
/-- the def x of the module keeps the promise sp -/
def Gd (CX : CXT) (P : Program) (w : World) (K : PySem.W.Frag) (mg : Str → Option Value) (base : Heap) (k : Nat) (x : Str) (ps : List Str) (sp : Sp) : Prop :=
  ∃ f fd, FnOk P w K mg base CX k f fd ps sp ∧ mg x = some (.ref f) ∧ PySem.W.keepIn K (.ref f) = true ∧ Binds K fd ps []
section
variable {CX : CXT} {P : Program} {w : World} {K : PySem.W.Frag} {mg : Str → Option Value} {base : Heap} {x : Str} {st : Stmt} {N ps : List Str} {k : Nat} {sp : Sp}
def Gf (CX : CXT) (P : Program) (w : World) (K : PySem.W.Frag) (mg : Str → Option Value) (base : Heap) (k : Nat) (x : Str) (st : Stmt) (ps : List Str) (sp : Sp) : Prop := ∀ f fd, FnP K x x st f fd → FnOk P w K mg base CX k f fd ps sp
theorem gf_of (S : FnScope N ps (defScope st)) (len : ∀ vs H Q E, sp vs H Q E → vs.length = ps.length)
    (body : ∀ (f : Addr) (cdv : Value) (A : Around) (outer : List Env) (s : Shared) (H : Hp) (vs : List V) (Q : VK) (E : XK), Room k (A.deeper (envOfC x (defScope st) s.heap.objs.size f cdv)) → sp vs H Q E →
      ∃ t, PSs (cxOf CX P w K mg base N x (defScope st) f cdv A outer s H E) (defBody st) t ∧ t { nx := fun _ H' => Q .non H', rt := Q } (start N vs) H) : Gf CX P w K mg base (k + 1) x st ps sp :=
  fun f _ F => F.ok S len (body f)
theorem gd_of (D : Df K mg x st) (S : FnScope N ps (defScope st))
    (hb : ∀ (kV doc pm : Value) (an : Option Addr) (cdv ct : Value) (us : List Value), us.length = ps.length → bindArgs (PySem.W.fnOf x x (defArgs st) (defBody st) (defScope st) .none kV doc pm an cdv ct) ⟨us, []⟩ = pure (ps.zip us))
    (len : ∀ vs H Q E, sp vs H Q E → vs.length = ps.length)
    (body : ∀ (f : Addr) (cdv : Value) (A : Around) (outer : List Env) (s : Shared) (H : Hp) (vs : List V) (Q : VK) (E : XK), Room k (A.deeper (envOfC x (defScope st) s.heap.objs.size f cdv)) → sp vs H Q E →
      ∃ t, PSs (cxOf CX P w K mg base N x (defScope st) f cdv A outer s H E) (defBody st) t ∧ t { nx := fun _ H' => Q .non H', rt := Q } (start N vs) H) : Gd CX P w K mg base (k + 1) x ps sp := by
  obtain ⟨f, fd, F, g⟩ := D
  exact ⟨f, fd, gf_of S len body f fd F, g, F.kp, F.bindsN hb⟩
end
section
variable {X : Cx} {k j : Nat} {x : Str} {ps : List Str} {sp : Sp} {e : Expr} {es : List Expr} {t : TA} {p pos : Pos}
/-- f(e, ..) -/
theorem pe_gd (G : Gd CX0 X.prog X.w X.K X.mg X.base j x ps sp) (hr : Room k X.A) (ha : PA X (e :: es) t) (hjk : j ≤ k := by decide) (hg : Gl X x := by rfl) (hdb : (x == ("__debug__" : Str)) = false := by decide)
    (he : starEach (e :: es) X.env = (false, eval e X.env) :: starEach es X.env := by rfl) (hpl : (backTo pos (starEach es X.env)).any (·.1) = false := by rfl) :
    PE X (.Call (.Name x p) (e :: es) [] pos) (tCall sp [] E0 t) := by
  obtain ⟨f, fd, F, g, kp, b⟩ := G
  exact pe_call F (hr.mono hjk) hg g kp b .nil pass0 ha hdb he hpl
end
end Ef
namespace Ef
open PySem PySem.Spec PyProof.Rows L2
/-! ### facts for the walks of the reckoning -/
theorem abs_int (t : Int) : (if t < 0 then -t else t) = ((t.natAbs : Nat) : Int) := by split <;> omega
theorem low_facts (t b' : Int) (n : Nat) (eb : b' = (n : Int)) (hn : n ≠ 0) (hl : n < 2 ^ 9000) :
    CDivW t (Nat.gcd t.natAbs n : Nat) ∧ CDivW b' (Nat.gcd t.natAbs n : Nat) ∧ t / ((Nat.gcd t.natAbs n : Nat) : Int) = (mkRat t n).num ∧ b' / ((Nat.gcd t.natAbs n : Nat) : Int) = ((mkRat t n).den : Int) := by
  subst eb
  have g1 : 0 < Nat.gcd t.natAbs n := gcd_pos_of hn
  have g2 : Nat.gcd t.natAbs n < 2 ^ 9000 := gcd_lt_of hn hl
  have g3 : ((Nat.gcd t.natAbs n : Nat) : Int).natAbs < 2 ^ 9000 := by rw [Int.natAbs_natCast]; exact g2
  refine ⟨wide_div (by omega) g3 (by decide) (by decide), wide_div (by omega) g3 (by decide) (by decide), (num_mk hn).symm, ?_⟩
  rw [den_mk hn, Int.natCast_ediv]
theorem den_mul_facts {p q : Rat} (p2 : p.den < 2 ^ 4500) (q2 : q.den < 2 ^ 4500) :
    (p.den : Int) * (q.den : Int) ≠ 0 ∧ ((p.den : Int) * (q.den : Int)).natAbs < 2 ^ 9000 ∧ ∀ t : Int, Rat.divInt t ((p.den : Int) * (q.den : Int)) = mkRat t (p.den * q.den) := by
  have e : (p.den : Int) * (q.den : Int) = ((p.den * q.den : Nat) : Int) := (Int.natCast_mul _ _).symm
  refine ⟨?_, ?_, fun t => ?_⟩
  · exact Int.ne_of_gt (Int.mul_pos (den_posI p) (den_posI q))
  · rw [e, Int.natAbs_natCast]
    exact sm_mul p2 q2
  · rw [e, Rat.divInt_ofNat]
theorem den_num_facts {p q : Rat} (p2 : p.den < 2 ^ 4500) (q1 : q.num.natAbs < 2 ^ 4500) (hq : q ≠ 0) :
    (p.den : Int) * q.num ≠ 0 ∧ ((p.den : Int) * q.num).natAbs < 2 ^ 9000 := by
  have h0 : q.num ≠ 0 := fun z => hq (Rat.num_eq_zero.mp z)
  have h1 : (p.den : Int) ≠ 0 := Int.ne_of_gt (den_posI p)
  refine ⟨fun z => (Int.mul_eq_zero.mp z).elim h1 h0, ?_⟩
  rw [Int.natAbs_mul, Int.natAbs_natCast]
  exact sm_mul p2 q1
theorem den_args (t : Int) (p q : Rat) : [V.int t, V.int ((p.den : Int) * (q.den : Int))] ++ [] = [V.int t, V.int ((p.den * q.den : Nat) : Int)] := by
  rw [Int.natCast_mul]
  rfl
theorem deqT {x y : Int} (h : decide (V.int x = V.int y) = true) : x = y := V.int.inj (of_decide_eq_true h)
theorem deqF {x y : Int} (h : decide (V.int x = V.int y) = false) : x ≠ y := fun z => of_decide_eq_false h (congrArg V.int z)
/-! ### the built-in names that no module binds -/
structure Bt (mg : Str → Option Value) : Prop where
  len : mg "len" = none
  abs : mg "abs" = none
  range : mg "range" = none
  isi : mg "isinstance" = none
  int : mg "int" = none
  bool : mg "bool" = none
  list : mg "list" = none
  tuple : mg "tuple" = none
  str : mg "str" = none
  rev : mg "reversed" = none
/-! ### the law's own helpers -/
/-- the script: read, never changed -/
def Scr (K : PySem.W.Frag) (H : Hp) (a : Addr) (ns : List Int) : Prop := SqL K H a (ns.map V.int) ∧ ∀ xs, H a ≠ some (.lst xs)
theorem Scr.kt {K : PySem.W.Frag} {H H' : Hp} {a : Addr} {ns : List Int} (k : Kt H H') (h : Scr K H a ns) : SqL K H' a (ns.map V.int) := by
  obtain ⟨h1, h2⟩ := h
  rcases h1 with (h | ⟨o, h⟩) | h
  · exact absurd h (h2 _)
  · exact .inl (.inr ⟨o, k _ _ h rfl⟩)
  · exact .inr h
def cellAt (ns : List Int) (k : Nat) : Int := ns.getD k 0
def spCellAt (K : PySem.W.Frag) : Sp := fun vs H Q _ => ∃ (a : Addr) (ns : List Int) (k : Nat), vs = [.ref a, .int (k : Int)] ∧ SqL K H a (ns.map V.int) ∧ Q (.int (cellAt ns k)) H
def spWhole : Sp := fun vs H Q _ => ∃ i : Int, vs = [.int i] ∧ Q (.bl true) H
/-- 0 - other, laid as a tuple -/
theorem neg_new {K : PySem.W.Frag} {H : Hp} {p : Addr} {q : Rat} : RatAt K (upd H p (.tup [.int (0 - q.num), .int (q.den : Int)])) (.ref p) (-q) := rat_new (by rw [Rat.neg_num, Int.zero_sub]) (by rw [Rat.neg_den])
theorem sm_neg {q : Rat} (h : Sm q) : Sm (-q) := ⟨by rw [Rat.neg_num, Int.natAbs_neg]; exact h.1, h.2⟩
/-- two lists of fractions are the same -/
def spParts (K : PySem.W.Frag) : Sp := fun vs H Q _ => ∃ (l m : Addr) (qs ps : List Rat), vs = [.ref l, .ref m] ∧ RL K H l qs ∧ RL K H m ps ∧ ps.length ≤ 1000 ∧ Q (.bl (decide (qs = ps))) H
theorem tyx_tup {K : PySem.W.Frag} {H : Hp} {a : Addr} {xs : List V} (h : SqT K H a xs) : TyX K H (.ref a) (.type "tuple") := by
  rcases h with (h | ⟨o, h⟩) | ⟨o, _, _, h, c, _⟩
  · exact .base (.tup h)
  · exact .fTuple h
  · exact .kTuple h c
theorem op_mul_str {X : Cx} : OpR X (binaryOp .Mult) (fun x y H Q => ∃ z n, x = .str z ∧ y = .int n ∧ MulOk z n ∧ Q (.str (Txt.mul z n)) H) := by
  intro pins s σ H x y v u Q I rx ry h
  obtain ⟨z, n, rfl, rfl, hz, q⟩ := h
  obtain ⟨t, rfl⟩ := rx
  obtain ⟨t', rfl⟩ := ry
  exact PySem.SB.mul hz (fun t' k => ⟨.str (Txt.mul z n), H, I.tok _, ⟨_, rfl⟩, q⟩)
/-- the law: a script handed in, True comes out -/
def spLaw (K : PySem.W.Frag) : Sp := fun vs H Q _ => ∃ (a : Addr) (ns : List Int), vs = [.ref a] ∧ Scr K H a ns ∧ ns.length ≤ 63 ∧ ∀ H', Q (.bl true) H'
/-- law 1: a fraction by a number -/
def spFrac1 (K : PySem.W.Frag) : Sp := fun vs H Q _ => ∃ (c : Int), vs = [.int c] ∧ ∀ r H' q, Same H H' → Sm q → RatAt K H' (.ref r) q → Q (.ref r) H'
/-- law 1: what was told is what is due -/
def spSame (K : PySem.W.Frag) : Sp := fun vs H Q _ => ∃ (v : V) (q : Rat) (t b : Int), vs = [v, .int t, .int b] ∧ RatAt K H v q ∧ b ≠ 0 ∧ b.natAbs < 2 ^ 9000 ∧ ∀ H', Same H H' → Q (.bl (decide (q = Rat.divInt t b))) H'
/-- an item of a written list of ints at a reckoned place -/
theorem ix_ints {K : PySem.W.Frag} {H : Hp} {Q : VK} {p : Addr} {bs : List Int} {z : Int} (hp : H p = some (.lst (bs.map V.int))) (h0 : 0 ≤ z) (h1 : z < bs.length) (hQ : ∀ b ∈ bs, Q (.int b) H) : rIxL K (.ref p) (.int z) H Q := by
  obtain ⟨n, rfl⟩ := Int.eq_ofNat_of_zero_le h0
  have hn : n < bs.length := by omega
  refine ⟨p, _, _, .int bs[n], rfl, rfl, SqL.of hp, atI_nat ?_, hQ _ (List.getElem_mem hn)⟩
  rw [List.getElem?_map, List.getElem?_eq_getElem hn]
  rfl
end Ef
namespace Ef
open PySem PySem.Spec PyProof.Rows L2
/-! ### the head: facts by names, and one test of our own -/
abbrev AlX : Type := He.AlD × Bool
def obsX (fa : List He.Fa) (fn : List He.DefD) (xb : PySem.W.Frag → Bool) (K : PySem.W.Frag) : AlX := (He.obsD fa fn K, xb K)
def obsXG (n : Nat) (fa : List He.Fa) (fn : List He.DefD) (xb : PySem.W.Frag → Bool) (g : Addr → Option Obj) : AlX := obsX fa fn xb (He.frG g (He.asD g n))
def SaysX (fa : List He.Fa) (fn : List He.DefD) (xb : PySem.W.Frag → Bool) (K : PySem.W.Frag) : Prop := obsX fa fn xb K = (He.valD fn, true)
def hookX (n : Nat) (fa : List He.Fa) (fn : List He.DefD) (xb : PySem.W.Frag → Bool) : PySem.W.Hook where
  α := AlX
  obs := fun s => obsXG n fa fn xb s.heap.get?
  val := fun _ => (He.valD fn, true)
  says := fun _ h => ∃ K : PySem.W.Frag, K.In h ∧ SaysX fa fn xb K
  of := fun _ _ e => ⟨_, He.frG_in, e⟩
  keeps := fun _ _ _ ⟨K, hK, c⟩ k => ⟨K, PySem.W.Frag.In.keeps hK k, c⟩
theorem obsXG_eq {n : Nat} {fa : List He.Fa} {fn : List He.DefD} {xb : PySem.W.Frag → Bool} {g : Addr → Option Obj} {s : Shared} (h : ∀ a, g a = s.heap.get? a) : obsXG n fa fn xb g = (hookX n fa fn xb).obs s := by
  have e : g = s.heap.get? := funext h
  rw [e] <;> rfl
theorem SaysX.d {fa : List He.Fa} {fn : List He.DefD} {xb : PySem.W.Frag → Bool} {K : PySem.W.Frag} (c : SaysX fa fn xb K) : He.SaysD fa fn K := congrArg Prod.fst c
theorem SaysX.x {fa : List He.Fa} {fn : List He.DefD} {xb : PySem.W.Frag → Bool} {K : PySem.W.Frag} (c : SaysX fa fn xb K) : xb K = true := congrArg Prod.snd c
def dfD (x : Str) (st : Stmt) : He.DefD := ⟨(x, none), x, x, defArgs st, defBody st, defScope st, [], []⟩
def mtD (C m q : Str) (st : Stmt) : He.DefD := ⟨(C, some m), m, q, defArgs st, defBody st, defScope st, [], []⟩
section
variable {fa : List He.Fa} {fn : List He.DefD} {xb : PySem.W.Frag → Bool} {K : PySem.W.Frag} {h : Heap} {mg : Str → Option Value}
theorem df_of (c : SaysX fa fn xb K) (X : K.In h) (G : h.Ns mainGlobals mg) (i j : Nat) {x : Str} {st : Stmt} (hd : fn[i]? = some (dfD x st) := by rfl) (hf : fa[j]? = some (.glo x) := by rfl) : Df K mg x st := by
  obtain ⟨fd, F⟩ := c.d.def_ i hd
  exact ⟨_, fd, F, He.glo_ok X G (c.d.fact j hf)⟩
end
def btNames : List Str := ["len", "abs", "range", "isinstance", "int", "bool", "list", "tuple", "str", "reversed"]
def btFa : List He.Fa := btNames.map He.Fa.free
theorem bt_of {fn : List He.DefD} {xb : PySem.W.Frag → Bool} {K : PySem.W.Frag} {h : Heap} {mg : Str → Option Value} {fa : List He.Fa} (c : SaysX (btFa ++ fa) fn xb K) (X : K.In h) (G : h.Ns mainGlobals mg) : Bt mg :=
  ⟨He.free_ok X G (c.d.fact 0 (f := .free "len") rfl), He.free_ok X G (c.d.fact 1 (f := .free "abs") rfl), He.free_ok X G (c.d.fact 2 (f := .free "range") rfl), He.free_ok X G (c.d.fact 3 (f := .free "isinstance") rfl), He.free_ok X G (c.d.fact 4 (f := .free "int") rfl),
   He.free_ok X G (c.d.fact 5 (f := .free "bool") rfl), He.free_ok X G (c.d.fact 6 (f := .free "list") rfl), He.free_ok X G (c.d.fact 7 (f := .free "tuple") rfl), He.free_ok X G (c.d.fact 8 (f := .free "str") rfl), He.free_ok X G (c.d.fact 9 (f := .free "reversed") rfl)⟩
/-- the script as the law is handed it -/
theorem scr_of {K : PySem.W.Frag} {H : Hp} {a : Addr} {ns : List Int} (hO : Only H) (hS : SqL K H a (ns.map V.int)) : Scr K H a ns := by
  refine ⟨hS, fun xs e => ?_⟩
  rcases hO a with z | ⟨o, ys, z⟩
  · rw [e] at z
    cases z
  · rw [e] at z
    cases z
end Ef
namespace Ef
open PySem PySem.Spec PyProof.Rows L2
/-! ### the mirror of the sounds -/
/-- a row of n + 1 cells -/
def tab (n : Nat) (f : Nat → Rat) : List Rat := (List.range (n + 1)).map f
def at0 (l : List Rat) (i : Nat) : Rat := l.getD i 0
/-- what goes to the right, to the left at the next moment -/
def nR (W r l : Nat → Rat) (j : Nat) : Rat := if j = 0 then 0 else r (j - 1) * (1 - W (j - 1)) + l j * W (j - 1)
def nL (n : Nat) (W r l : Nat → Rat) (j : Nat) : Rat := if j < n then r j * W j + l (j + 1) * (1 - W j) else 0
def stt (n : Nat) (W : Nat → Rat) : Nat → (Nat → Rat) × (Nat → Rat)
  | 0 => (fun j => if j = 0 then 1 else 0, fun _ => 0)
  | t + 1 => (nR W (stt n W t).1 (stt n W t).2, nL n W (stt n W t).1 (stt n W t).2)
def goR (n : Nat) (W : Nat → Rat) (t : Nat) : Nat → Rat := (stt n W t).1
def goL (n : Nat) (W : Nat → Rat) (t : Nat) : Nat → Rat := (stt n W t).2
def ears (n : Nat) (W : Nat → Rat) (m : Nat) : List Rat := (List.range m).map fun t => goL n W t 0
def gone (n : Nat) (W : Nat → Rat) (m : Nat) : List Rat := (List.range m).map fun t => goR n W t n
/-- what a step reckons with is small -/
structure StepAt (a w b : Rat) : Prop where
  sa : Sm a
  sw : Sm w
  sb : Sm b
  aw : Sm (a * w)
  ad : Sm (a - a * w)
  bw : Sm (b * w)
  bd : Sm (b - b * w)
  w1 : Sm (1 - w)
  av : Sm (a * (1 - w))
  bv : Sm (b * (1 - w))
def StepOk (n : Nat) (W r l : Nat → Rat) : Prop := ∀ k, k < n → StepAt (r k) (W k) (l (k + 1))
def RunOk (n : Nat) (W : Nat → Rat) (m : Nat) : Prop := ∀ t, t < m → StepOk n W (goR n W t) (goL n W t)
theorem tab_len (n : Nat) (f : Nat → Rat) : (tab n f).length = n + 1 := by unfold tab; rw [List.length_map, List.length_range]
theorem tab_get {n : Nat} {f : Nat → Rat} {i : Nat} (h : i ≤ n) : (tab n f)[i]? = some (f i) := by
  unfold tab
  rw [List.getElem?_map, List.getElem?_range (by omega)]
  rfl
theorem tab_congr {n : Nat} {f g : Nat → Rat} (h : ∀ j, j ≤ n → f j = g j) : tab n f = tab n g := by
  unfold tab
  refine List.map_congr_left fun j hj => h j ?_
  have := List.mem_range.mp hj
  omega
theorem tab_set {n : Nat} {f : Nat → Rat} {i : Nat} {q : Rat} : (tab n f).set i q = tab n (fun j => if j = i then q else f j) := by
  refine List.ext_getElem? fun j => ?_
  rw [List.getElem?_set, tab_len]
  by_cases hj : j ≤ n
  · rw [tab_get hj, tab_get hj]
    by_cases e : i = j
    · rw [if_pos e, if_pos (by omega), if_pos e.symm]
    · rw [if_neg e, if_neg (fun z => e z.symm)]
  · rw [List.getElem?_eq_none (by rw [tab_len]; omega), List.getElem?_eq_none (l := tab n _) (by rw [tab_len]; omega)]
    split
    · rw [if_neg (by omega)]
    · rfl
theorem rep_tab (n : Nat) : List.replicate (n + 1) (0 : Rat) = tab n (fun _ => 0) := by
  refine List.ext_getElem? fun j => ?_
  rw [List.getElem?_replicate]
  by_cases hj : j ≤ n
  · rw [if_pos (by omega), tab_get hj]
  · rw [if_neg (by omega), List.getElem?_eq_none (by rw [tab_len]; omega)]
theorem one_tab (n : Nat) : [1] ++ List.replicate n (0 : Rat) = tab n (fun j => if j = 0 then 1 else 0) := by
  refine List.ext_getElem? fun j => ?_
  cases j with
  | zero => rw [tab_get (Nat.zero_le _)]; rfl
  | succ j =>
    rw [List.getElem?_append_right (by simp), List.getElem?_replicate]
    by_cases hj : j + 1 ≤ n
    · rw [if_pos (by simp; omega), tab_get hj, if_neg (by omega)]
    · rw [if_neg (by simp; omega), List.getElem?_eq_none (by rw [tab_len]; omega)]
theorem at0_get {ws : List Rat} {k : Nat} (h : k < ws.length) : ws[k]? = some (at0 ws k) := by
  unfold at0
  rw [List.getD_eq_getElem?_getD, List.getElem?_eq_getElem h]
  rfl
theorem ears_succ (n : Nat) (W : Nat → Rat) (m : Nat) : ears n W (m + 1) = ears n W m ++ [goL n W m 0] := by unfold ears; rw [List.range_succ, List.map_append]; rfl
theorem gone_succ (n : Nat) (W : Nat → Rat) (m : Nat) : gone n W (m + 1) = gone n W m ++ [goR n W m n] := by unfold gone; rw [List.range_succ, List.map_append]; rfl
theorem ears_len (n : Nat) (W : Nat → Rat) (m : Nat) : (ears n W m).length = m := by unfold ears; rw [List.length_map, List.length_range]
theorem gone_len (n : Nat) (W : Nat → Rat) (m : Nat) : (gone n W m).length = m := by unfold gone; rw [List.length_map, List.length_range]
/-! ### heaps once more -/
section
variable {K : PySem.W.Frag} {H0 H H' : Hp} {l : Addr} {qs : List Rat}
theorem same_but (s : Same H0 H) (h0 : H0 l = none) (hb : ∀ b, b ≠ l → H' b = H b) : Same H0 H' := fun b o e => by
  rw [hb b (ne_of_none e h0)]
  exact s b o e
/-- an item stored -/
theorem ixs {Q : Hp → Prop} {z : Int} {i : Nat} {v : V} {q : Rat} (h : RL K H l qs) (hi : i < qs.length) (hz : z = (i : Int)) (r : RatAt K H v q)
    (hQ : ∀ H', Kt H H' → (∀ b, b ≠ l → H' b = H b) → RL K H' l (qs.set i q) → Q H') : rSetL (.ref l) (.int z) v H Q := by
  obtain ⟨xs, e, rx⟩ := h
  have hx : i < xs.length := by rw [rx.1]; exact hi
  refine ⟨l, xs, z, i, rfl, rfl, e, ?_, hQ _ (Kt.set e) (fun b hb => upd_ne hb) (RL.upd e (rx.set r))⟩
  unfold ixN
  rw [if_pos (by omega), if_pos (by omega)]
  congr 1
  omega
/-- an item put behind -/
theorem ixa {Q : VK} {v : V} {q : Rat} (h : RL K H l qs) (hn : qs.length < 1000) (r : RatAt K H v q)
    (hQ : ∀ H', Kt H H' → (∀ b, b ≠ l → H' b = H b) → RL K H' l (qs ++ [q]) → Q .non H') : rAppend (.ref l) [v] H Q := by
  obtain ⟨xs, e, rx⟩ := h
  exact ⟨l, xs, v, rfl, rfl, e, Nat.lt_of_lt_of_le (by rw [rx.1]; exact hn) (by decide), hQ _ (Kt.set e) (fun b hb => upd_ne hb) (RL.upd e (rx.push r))⟩
theorem RL.len_eq (h : RL K H l qs) : ∃ xs, H l = some (.lst xs) ∧ xs.length = qs.length := by
  obtain ⟨xs, e, rx⟩ := h
  exact ⟨xs, e, rx.1⟩
theorem ty_list (h : RL K H l qs) : tyV K "list" (.ref l) H := by
  obtain ⟨xs, e, rx⟩ := h
  exact .inl ⟨rfl, _, SqL.of e⟩
end
/-- a comprehension without a test -/
theorem yesQ {σ : L2.St} {H : Hp} {Q : Bool → Hp → Prop} (h : Q true H) : tYes σ H Q := h
theorem cI {v : V} {σ : L2.St} {H : Hp} {Q : VK} (h : Q v H) : tC v σ H Q := h
theorem nI {σ : L2.St} {H : Hp} {Q : List V → Hp → Prop} (h : Q [] H) : tNil σ H Q := h
theorem Rats.rep {K : PySem.W.Frag} {H : Hp} {v : V} {q : Rat} (r : RatAt K H v q) (n : Nat) : Rats K H (List.replicate n v) (List.replicate n q) := by
  refine ⟨by rw [List.length_replicate, List.length_replicate], fun i u p a b => ?_⟩
  rw [List.getElem?_replicate] at a b
  split at a
  · rw [if_pos (by assumption)] at b
    cases Option.some.inj a
    cases Option.some.inj b
    exact r
  · cases a
theorem flat_rep (v : V) : ∀ n : Nat, (List.replicate n [v]).flatten = List.replicate n v
  | 0 => rfl
  | n + 1 => by rw [List.replicate_succ, List.flatten_cons, flat_rep v n]; rfl
/-- [x] * n, of a fraction -/
theorem ixrep {K : PySem.W.Frag} {H : Hp} {Q : VK} {p : Addr} {v : V} {q : Rat} {z : Int} {n : Nat} (hp : H p = some (.lst [v])) (r : RatAt K H v q) (hz : z = (n : Int)) (hn : n ≤ 1000)
    (hQ : ∀ D H', H D = none → Same H H' → RL K H' D (List.replicate n q) → Q (.ref D) H') : rRep (.ref p) (.int z) H Q := by
  subst hz
  refine ⟨p, _, [v], rfl, rfl, hp, by omega, by omega, ?_, fun D hD => ?_⟩
  · rw [Int.toNat_natCast, List.length_singleton, Nat.one_mul]
    exact Nat.le_trans hn (by decide)
  · rw [Int.toNat_natCast, flat_rep]
    exact hQ D _ hD (same_new hD) (RL.new hD (Rats.rep r n))
/-- a constant of the module, a fraction -/
def KonstQ (K : PySem.W.Frag) (mg : Str → Option Value) (x : Str) (q : Rat) : Prop := ∃ a, mg x = some (.ref a) ∧ ∀ H, RatAt K H (.ref a) q
/-! ### promises -/
def spStep (K : PySem.W.Frag) : Sp := fun vs H Q _ => ∃ (lw lr ll : Addr) (ws : List Rat) (r l : Nat → Rat), vs = [.ref lw, .ref lr, .ref ll] ∧ RL K H lw ws ∧ RL K H lr (tab ws.length r) ∧ RL K H ll (tab ws.length l) ∧ ws.length ≤ 8 ∧ StepOk ws.length (at0 ws) r l ∧
  ∀ (p a b : Addr) (u v : V) (H' : Hp), Same H H' → H p = none → H a = none → H b = none → a ≠ b → H' p = some (.tup [.ref a, .ref b, u, v]) → RL K H' a (tab ws.length (nR (at0 ws) r l)) → RL K H' b (tab ws.length (nL ws.length (at0 ws) r l)) → RatAt K H' u (l 0) → RatAt K H' v (r ws.length) → Q (.ref p) H'
/-- what a run told -/
structure RunAt (K : PySem.W.Frag) (H H' : Hp) (p a b e g : Addr) (ws : List Rat) (m : Nat) : Prop where
  tup : H' p = some (.tup [.ref a, .ref b, .ref e, .ref g])
  rt : RL K H' a (tab ws.length (goR ws.length (at0 ws) m))
  lf : RL K H' b (tab ws.length (goL ws.length (at0 ws) m))
  er : RL K H' e (ears ws.length (at0 ws) m)
  gn : RL K H' g (gone ws.length (at0 ws) m)
  na : H a = none
  nb : H b = none
  ne : H e = none
  ng : H g = none
  ab : a ≠ b
def spLRun (K : PySem.W.Frag) : Sp := fun vs H Q _ => ∃ (lw : Addr) (ws : List Rat) (m : Nat), vs = [.ref lw, .int (m : Int)] ∧ RL K H lw ws ∧ ws.length ≤ 8 ∧ m ≤ 40 ∧ RunOk ws.length (at0 ws) m ∧
  ∀ (p a b e g : Addr) (H' : Hp), Same H H' → RunAt K H H' p a b e g ws m → Q (.ref p) H'
/-! ### fields -/
abbrev FC (K : PySem.W.Frag) : Addr := He.ga K "Field"
def FieldAt (K : PySem.W.Frag) (H : Hp) (p l : Addr) (ws : List Rat) : Prop := (∃ dx, H p = some (.ins (FC K) dx [("parts", .ref l)])) ∧ RL K H l ws
theorem FieldAt.same {K : PySem.W.Frag} {H H' : Hp} {p l : Addr} {ws : List Rat} (k : Same H H') (h : FieldAt K H p l ws) : FieldAt K H' p l ws := by
  obtain ⟨⟨dx, e⟩, r⟩ := h
  exact ⟨⟨dx, k _ _ e⟩, r.same k⟩
structure FTx (K : PySem.W.Frag) (mg : Str → Option Value) : Prop where
  cl : Cls K (FC K)
  nP : NoAttr K (FC K) "parts"
  gF : mg "Field" = some (.ref (FC K))
def Unit1 (ws : List Rat) : Prop := ∀ q ∈ ws, 0 ≤ q.num ∧ q.num ≤ (q.den : Int)
def spInit (K : PySem.W.Frag) : Sp := fun vs H Q _ => ∃ (p l dx : Addr) (ws : List Rat), vs = [.ref p, .ref l] ∧ H p = some (.ins (FC K) dx []) ∧ RL K H l ws ∧ 1 ≤ ws.length ∧ ws.length ≤ 8 ∧ Unit1 ws ∧
  ∀ (m : Addr) (H' : Hp), H m = none → FieldAt K H' p m ws → (∀ b o, H b = some o → b ≠ p → H' b = some o) → Q .non H'
def spWalls (K : PySem.W.Frag) : Sp := fun vs H Q _ => ∃ (p l : Addr) (ws : List Rat), vs = [.ref p] ∧ FieldAt K H p l ws ∧ ws.length ≤ 1000 ∧ ∀ (m : Addr) (H' : Hp), H m = none → Same H H' → RL K H' m ws → Q (.ref m) H'
def InitOk (P : Program) (w : World) (K : PySem.W.Frag) (mg : Str → Option Value) (base : Heap) : Prop := ∃ f fd, FnOk P w K mg base CX0 1 f fd ["self", "walls"] (spInit K) ∧ Mk K (FC K) f ∧ Binds K fd ["self", "walls"] []
def WallsOk (P : Program) (w : World) (K : PySem.W.Frag) (mg : Str → Option Value) (base : Heap) : Prop := ∃ f fd, FnOk P w K mg base CX0 1 f fd ["self"] (spWalls K) ∧ Meth K (FC K) "walls" f ∧ Binds K fd ["self"] []
/-- a field made -/
theorem make_field {K : PySem.W.Frag} {H : Hp} {Q : Addr → Hp → Prop} {l : Addr} {ws : List Rat} (h : RL K H l ws) (h1 : 1 ≤ ws.length) (h8 : ws.length ≤ 8) (hu : Unit1 ws)
    (hQ : ∀ (p m : Addr) (H' : Hp), H p = none → H m = none → Same H H' → FieldAt K H' p m ws → Q p H') :
    ∀ x dx, H x = none → H dx = none → dx ≠ x → spInit K (.ref x :: ([.ref l] ++ [])) (upd (upd H dx (.own x)) x (.ins (FC K) dx [])) (fun v H2 => v = .non ∧ Q x H2) E0 := by
  intro x dx nx nd ne
  have s0 : Same H (upd (upd H dx (.own x)) x (.ins (FC K) dx [])) := fun b o e => by
    rw [upd_ne (ne_of_none e nx), upd_ne (ne_of_none e nd)]
    exact e
  refine ⟨x, l, dx, ws, rfl, upd_same, h.same s0, h1, h8, hu, fun m H' hm hf hk => ⟨rfl, hQ x m H' nx (s0.free hm) (fun b o e => hk b o (s0 b o e) (ne_of_none e nx)) hf⟩⟩
/-- its walls asked -/
theorem ask_walls {K : PySem.W.Frag} {σ : L2.St} {H : Hp} {Q : VK} {p l : Addr} {ws : List Rat} (h : FieldAt K H p l ws) (h8 : ws.length ≤ 1000)
    (hQ : ∀ (m : Addr) (H' : Hp), H m = none → Same H H' → RL K H' m ws → Q (.ref m) H') :
    ∃ a dx fs, V.ref p = .ref a ∧ H a = some (.ins (FC K) dx fs) ∧ fs.lookup ("walls" : Str) = none ∧ tNil σ H fun vs H2 => spWalls K (.ref p :: (vs ++ [])) H2 Q E0 := by
  obtain ⟨dx, e⟩ := h.1
  have ne : (("walls" : Str) == ("parts" : Str)) = false := by decide +kernel
  exact ⟨p, dx, _, rfl, e, by simp [List.lookup, ne], p, l, ws, rfl, h, h8, hQ⟩
def spRun (K : PySem.W.Frag) : Sp := fun vs H Q _ => ∃ (f l : Addr) (ws : List Rat) (m : Nat), vs = [.ref f, .int (m : Int)] ∧ FieldAt K H f l ws ∧ ws.length ≤ 8 ∧ m ≤ 40 ∧ RunOk ws.length (at0 ws) m ∧
  ∀ (p a b e g : Addr) (H' : Hp), Same H H' → RunAt K H H' p a b e g ws m → Q (.ref p) H'
def spGoing (K : PySem.W.Frag) : Sp := fun vs H Q _ => ∃ (f l : Addr) (ws : List Rat) (m : Nat), vs = [.ref f, .int (m : Int)] ∧ FieldAt K H f l ws ∧ ws.length ≤ 8 ∧ m ≤ 40 ∧ RunOk ws.length (at0 ws) m ∧
  ∀ (p a b : Addr) (H' : Hp), Same H H' → H' p = some (.tup [.ref a, .ref b]) → RL K H' a (tab ws.length (goR ws.length (at0 ws) m)) → RL K H' b (tab ws.length (goL ws.length (at0 ws) m)) → H a = none → H b = none → a ≠ b → Q (.ref p) H'
def spHeard (K : PySem.W.Frag) : Sp := fun vs H Q _ => ∃ (f l : Addr) (ws : List Rat) (m : Nat), vs = [.ref f, .int (m : Int)] ∧ FieldAt K H f l ws ∧ ws.length ≤ 8 ∧ m ≤ 40 ∧ RunOk ws.length (at0 ws) m ∧
  ∀ (e : Addr) (H' : Hp), Same H H' → H e = none → RL K H' e (ears ws.length (at0 ws) m) → Q (.ref e) H'
def spLost (K : PySem.W.Frag) : Sp := fun vs H Q _ => ∃ (f l : Addr) (ws : List Rat) (m : Nat), vs = [.ref f, .int (m : Int)] ∧ FieldAt K H f l ws ∧ ws.length ≤ 8 ∧ m ≤ 40 ∧ RunOk ws.length (at0 ws) m ∧
  ∀ (e : Addr) (H' : Hp), Same H H' → H e = none → RL K H' e (gone ws.length (at0 ws) m) → Q (.ref e) H'
/-! ### the law's sides -/
def sideOf (c : Int) : Rat := if c / 6 % 5 = 0 then mkRat (c / 30 % 2) 1 else mkRat (c / 30 % (1 + c % 6 + 1)) (1 + c % 6).toNat
def sidesOf (ns : List Int) (first : Nat) (most : Int) : List Rat := (List.range (1 + cellAt ns first % most).toNat).map fun k => sideOf (cellAt ns (first + 1 + k))
def spSide (K : PySem.W.Frag) : Sp := fun vs H Q _ => ∃ c : Int, vs = [.int c] ∧ ∀ r H', Same H H' → RatAt K H' (.ref r) (sideOf c) → Q (.ref r) H'
def spSides (K : PySem.W.Frag) : Sp := fun vs H Q _ => ∃ (a : Addr) (ns : List Int) (first : Nat) (most : Int), vs = [.ref a, .int (first : Int), .int most] ∧ SqL K H a (ns.map V.int) ∧ 0 < most ∧ most ≤ 1000 ∧ ∀ l H', Same H H' → H l = none → RL K H' l (sidesOf ns first most) → Q (.ref l) H'
/-- the law's moment -/
def momOf (c : Int) (n : Nat) : Int := if n < 3 ∧ c / 13 % 4 = 1 then c / 52 % 41 else c % 13
def spMoment (K : PySem.W.Frag) : Sp := fun vs H Q _ => ∃ (a l : Addr) (ns : List Int) (k : Nat) (ws : List Rat), vs = [.ref a, .int (k : Int), .ref l] ∧ SqL K H a (ns.map V.int) ∧ RL K H l ws ∧ Q (.int (momOf (cellAt ns k) ws.length)) H
end Ef
namespace Ef
/-! ### bottoms that divide -/
def IsD (D : Nat) (q : Rat) : Prop := ∃ z : Int, q * (D : Rat) = (z : Rat)
theorem nz_cast {D : Nat} (h : 0 < D) : (D : Rat) ≠ 0 := by
  intro z
  have h1 : ((D : Nat) : Rat).num = 0 := by rw [z]; rfl
  have h2 : ((D : Int)) = 0 := h1
  omega
theorem IsD.eq {D : Nat} {q : Rat} (hD : 0 < D) {z : Int} (h : q * (D : Rat) = (z : Rat)) : q = mkRat z D := by
  rw [Rat.mkRat_eq_div]
  have h0 := nz_cast hD
  have : ((D : Nat) : Rat) = ((D : Int) : Rat) := rfl
  grind
theorem IsD.den {D : Nat} {q : Rat} (hD : 0 < D) (h : IsD D q) : q.den ≤ D := by
  obtain ⟨z, h⟩ := h
  rw [IsD.eq hD h]
  exact mk_den_le (by omega)
theorem cast_le {a b : Int} (h : (a : Rat) ≤ (b : Rat)) : a ≤ b := by
  have := (Rat.le_iff (a : Rat) (b : Rat)).mp h
  simpa using this
theorem le_cast {a b : Int} (h : a ≤ b) : (a : Rat) ≤ (b : Rat) := by
  refine (Rat.le_iff (a : Rat) (b : Rat)).mpr ?_
  simpa using h
theorem nat_pos {D : Nat} (h : 0 < D) : (0 : Rat) < (D : Rat) := by
  refine (Rat.lt_iff 0 (D : Rat)).mpr ?_
  simpa using h
theorem IsD.num {D : Nat} {q : Rat} (hD : 0 < D) (h : IsD D q) (h0 : -1 ≤ q) (h1 : q ≤ 1) : q.num.natAbs ≤ D := by
  obtain ⟨z, h⟩ := h
  have e := IsD.eq hD h
  have b : z.natAbs ≤ D := by
    have p := nat_pos hD
    have c1 : (z : Rat) ≤ ((D : Int) : Rat) := by
      rw [← h]
      have := Rat.mul_le_mul_of_nonneg_right h1 (Rat.le_of_lt p)
      have e2 : ((D : Nat) : Rat) = ((D : Int) : Rat) := rfl
      grind
    have c2 : ((-(D : Int) : Int) : Rat) ≤ (z : Rat) := by
      rw [← h]
      have := Rat.mul_le_mul_of_nonneg_right h0 (Rat.le_of_lt p)
      have e2 : ((-(D : Int) : Int) : Rat) = -(D : Rat) := by rw [Rat.intCast_neg]; rfl
      grind
    have d1 := cast_le c1
    have d2 := cast_le c2
    omega
  rw [e]
  exact Nat.le_trans (mk_num_le (by omega)) b
theorem sm_of {D : Nat} {q : Rat} (hD : 0 < D) (hl : D < 2 ^ 4500) (h : IsD D q) (h0 : -1 ≤ q) (h1 : q ≤ 1) : Sm q :=
  ⟨Nat.lt_of_le_of_lt (h.num hD h0 h1) hl, Nat.lt_of_le_of_lt (h.den hD) hl⟩
theorem IsD.mul {D E : Nat} {p q : Rat} (hp : IsD D p) (hq : IsD E q) : IsD (D * E) (p * q) := by
  obtain ⟨a, ha⟩ := hp
  obtain ⟨b, hb⟩ := hq
  refine ⟨a * b, ?_⟩
  rw [Rat.intCast_mul, ← ha, ← hb, Rat.natCast_mul]
  grind
theorem IsD.add {D : Nat} {p q : Rat} (hp : IsD D p) (hq : IsD D q) : IsD D (p + q) := by
  obtain ⟨a, ha⟩ := hp
  obtain ⟨b, hb⟩ := hq
  refine ⟨a + b, ?_⟩
  rw [Rat.intCast_add, ← ha, ← hb]
  grind
theorem IsD.sub {D : Nat} {p q : Rat} (hp : IsD D p) (hq : IsD D q) : IsD D (p - q) := by
  obtain ⟨a, ha⟩ := hp
  obtain ⟨b, hb⟩ := hq
  refine ⟨a - b, ?_⟩
  rw [Rat.intCast_sub, ← ha, ← hb]
  grind
theorem IsD.up {D : Nat} {p : Rat} (hp : IsD D p) (E : Nat) : IsD (D * E) p := by
  obtain ⟨a, ha⟩ := hp
  refine ⟨a * E, ?_⟩
  rw [Rat.intCast_mul, ← ha, Rat.natCast_mul]
  have : (((E : Nat) : Int) : Rat) = (E : Rat) := rfl
  grind
theorem IsD.int (D : Nat) (n : Int) : IsD D (n : Rat) := ⟨n * D, by rw [Rat.intCast_mul]; rfl⟩
theorem IsD.zero (D : Nat) : IsD D 0 := IsD.int D 0
theorem IsD.one (D : Nat) : IsD D 1 := IsD.int D 1
theorem isD_mk {a : Int} {b e : Nat} (hb : 0 < b) : IsD (b * e) (mkRat a b) := by
  refine ⟨a * e, ?_⟩
  rw [Rat.mkRat_eq_div, Rat.natCast_mul, Rat.intCast_mul]
  have h0 := nz_cast hb
  have e1 : (((b : Nat) : Int) : Rat) = (b : Rat) := rfl
  have e2 : (((e : Nat) : Int) : Rat) = (e : Rat) := rfl
  grind
/-! ### between nought and one -/
def In01 (q : Rat) : Prop := 0 ≤ q ∧ q ≤ 1
theorem In01.mul {p q : Rat} (hp : In01 p) (hq : In01 q) : In01 (p * q) := by
  refine ⟨Rat.mul_nonneg hp.1 hq.1, ?_⟩
  have := Rat.mul_le_mul_of_nonneg_right hp.2 hq.1
  have := hq.2
  grind
theorem In01.co {q : Rat} (hq : In01 q) : In01 (1 - q) := by
  obtain ⟨a, b⟩ := hq
  constructor <;> grind
theorem In01.mix {a b w : Rat} (ha : In01 a) (hb : In01 b) (hw : In01 w) : In01 (a * (1 - w) + b * w) := by
  have h1 := ha.mul hw.co
  have h2 := hb.mul hw
  refine ⟨by have := h1.1; have := h2.1; grind, ?_⟩
  have := Rat.mul_le_mul_of_nonneg_right ha.2 hw.co.1
  have := Rat.mul_le_mul_of_nonneg_right hb.2 hw.1
  grind
theorem In01.neg1 {q : Rat} (h : In01 q) : -1 ≤ q := by have := h.1; grind
theorem in01_zero : In01 0 := ⟨Rat.le_refl, by decide⟩
theorem in01_one : In01 1 := ⟨by decide, Rat.le_refl⟩
theorem unit_in {q : Rat} (h : In01 q) : 0 ≤ q.num ∧ q.num ≤ (q.den : Int) := by
  refine ⟨Rat.num_nonneg.mpr h.1, ?_⟩
  have := (Rat.le_iff q 1).mp h.2
  simpa using this
theorem in_unit {q : Rat} (h : 0 ≤ q.num ∧ q.num ≤ (q.den : Int)) : In01 q := by
  refine ⟨Rat.num_nonneg.mp h.1, (Rat.le_iff q 1).mpr ?_⟩
  simpa using h.2
theorem in01_mk {a : Int} {b : Nat} (hb : 0 < b) (h0 : 0 ≤ a) (h1 : a ≤ b) : In01 (mkRat a b) := by
  rw [Rat.mkRat_eq_div]
  have p := nat_pos hb
  have e1 : (((b : Nat) : Int) : Rat) = (b : Rat) := rfl
  have c0 : (0 : Rat) ≤ (a : Rat) := le_cast h0
  have c1 : (a : Rat) ≤ (b : Rat) := by rw [← e1]; exact le_cast h1
  have q : (a : Rat) / (b : Rat) * (b : Rat) = a := Rat.div_mul_cancel (nz_cast hb)
  generalize (a : Rat) / (b : Rat) = x at q ⊢
  refine ⟨?_, ?_⟩
  · refine Rat.le_of_mul_le_mul_right (c := (b : Rat)) ?_ p
    grind
  · refine Rat.le_of_mul_le_mul_right (c := (b : Rat)) ?_ p
    grind
/-! ### what runs keeps small -/
structure Good (D n : Nat) (W : Nat → Rat) : Prop where
  dp : 0 < D
  i : ∀ k, k < n → In01 (W k)
  d : ∀ k, k < n → IsD D (W k)
theorem state_good {D n : Nat} {W : Nat → Rat} (g : Good D n W) : ∀ t j, j ≤ n → (In01 (goR n W t j) ∧ IsD (D ^ t) (goR n W t j)) ∧ (In01 (goL n W t j) ∧ IsD (D ^ t) (goL n W t j))
  | 0, j, _ => by
    refine ⟨?_, in01_zero, IsD.zero _⟩
    show In01 (if j = 0 then 1 else 0) ∧ IsD _ (if j = 0 then 1 else 0)
    split
    · exact ⟨in01_one, IsD.one _⟩
    · exact ⟨in01_zero, IsD.zero _⟩
  | t + 1, j, hj => by
    have ih := state_good g t
    refine ⟨?_, ?_⟩
    · show In01 (nR W (goR n W t) (goL n W t) j) ∧ IsD (D ^ t * D) (nR W (goR n W t) (goL n W t) j)
      unfold nR
      split
      · exact ⟨in01_zero, IsD.zero _⟩
      · have a := (ih (j - 1) (by omega)).1
        have b := (ih j hj).2
        have w := g.i (j - 1) (by omega)
        have wd := g.d (j - 1) (by omega)
        exact ⟨a.1.mix b.1 w, (a.2.mul ((IsD.one D).sub wd)).add (b.2.mul wd)⟩
    · show In01 (nL n W (goR n W t) (goL n W t) j) ∧ IsD (D ^ t * D) (nL n W (goR n W t) (goL n W t) j)
      unfold nL
      split
      · rename_i hjn
        have a := (ih j hj).1
        have b := (ih (j + 1) (by omega)).2
        have w := g.i j hjn
        have wd := g.d j hjn
        have m := b.1.mix a.1 w
        refine ⟨?_, (a.2.mul wd).add (b.2.mul ((IsD.one D).sub wd))⟩
        rw [Rat.add_comm]
        exact m
      · exact ⟨in01_zero, IsD.zero _⟩
theorem run_ok {D n m : Nat} {W : Nat → Rat} (g : Good D n W) (hb : D ^ m < 2 ^ 4500) : RunOk n W m := fun t ht k hk => by
  obtain ⟨⟨a1, a2⟩, _⟩ := state_good g t k (by omega)
  obtain ⟨_, b1, b2⟩ := state_good g t (k + 1) (by omega)
  have w := g.i k hk
  have wd := g.d k hk
  have hp : 0 < D ^ (t + 1) := Nat.pow_pos g.dp
  have hl : D ^ (t + 1) < 2 ^ 4500 := Nat.lt_of_le_of_lt (Nat.pow_le_pow_right g.dp ht) hb
  have e : D ^ (t + 1) = D ^ t * D := Nat.pow_succ ..
  have up1 : ∀ q, IsD (D ^ t) q → IsD (D ^ (t + 1)) q := fun q h => by rw [e]; exact h.up D
  have up2 : IsD (D ^ (t + 1)) (W k) := by rw [e, Nat.mul_comm]; exact wd.up _
  have aw : IsD (D ^ (t + 1)) (goR n W t k * W k) := by rw [e]; exact a2.mul wd
  have bw : IsD (D ^ (t + 1)) (goL n W t (k + 1) * W k) := by rw [e]; exact b2.mul wd
  have av : IsD (D ^ (t + 1)) (goR n W t k * (1 - W k)) := by rw [e]; exact a2.mul ((IsD.one D).sub wd)
  have bv : IsD (D ^ (t + 1)) (goL n W t (k + 1) * (1 - W k)) := by rw [e]; exact b2.mul ((IsD.one D).sub wd)
  have go : ∀ q, IsD (D ^ (t + 1)) q → In01 q → Sm q := fun q h i => sm_of hp hl h i.neg1 i.2
  have ea : goR n W t k - goR n W t k * W k = goR n W t k * (1 - W k) := by grind
  have eb : goL n W t (k + 1) - goL n W t (k + 1) * W k = goL n W t (k + 1) * (1 - W k) := by grind
  exact ⟨go _ (up1 _ a2) a1, go _ up2 w, go _ (up1 _ b2) b1, go _ aw (a1.mul w), by rw [ea]; exact go _ av (a1.mul w.co), go _ bw (b1.mul w), by rw [eb]; exact go _ bv (b1.mul w.co),
    go _ ((IsD.one _).sub up2) w.co, go _ av (a1.mul w.co), go _ bv (b1.mul w.co)⟩
/-! ### the law's sides -/
theorem side_good (c : Int) : In01 (sideOf c) ∧ IsD 60 (sideOf c) := by
  unfold sideOf
  have m0 : 0 ≤ c % 6 := Int.emod_nonneg _ (by decide)
  have m1 : c % 6 < 6 := Int.emod_lt_of_pos _ (by decide)
  split
  · have a0 : 0 ≤ c / 30 % 2 := Int.emod_nonneg _ (by decide)
    have a1 : c / 30 % 2 < 2 := Int.emod_lt_of_pos _ (by decide)
    exact ⟨in01_mk (by decide) a0 (by omega), isD_mk (b := 1) (e := 60) (by decide)⟩
  · obtain ⟨n, en⟩ := Int.eq_ofNat_of_zero_le (show 0 ≤ 1 + c % 6 by omega)
    rw [en, Int.toNat_natCast]
    have a0 : 0 ≤ c / 30 % ((n : Int) + 1) := Int.emod_nonneg _ (by omega)
    have a1 : c / 30 % ((n : Int) + 1) < (n : Int) + 1 := Int.emod_lt_of_pos _ (by omega)
    refine ⟨in01_mk (by omega) a0 (by omega), ?_⟩
    have hn : n = 1 ∨ n = 2 ∨ n = 3 ∨ n = 4 ∨ n = 5 ∨ n = 6 := by omega
    rcases hn with h | h | h | h | h | h <;> subst h
    · exact isD_mk (b := 1) (e := 60) (by decide)
    · exact isD_mk (b := 2) (e := 30) (by decide)
    · exact isD_mk (b := 3) (e := 20) (by decide)
    · exact isD_mk (b := 4) (e := 15) (by decide)
    · exact isD_mk (b := 5) (e := 12) (by decide)
    · exact isD_mk (b := 6) (e := 10) (by decide)
theorem sides_len (ns : List Int) (first : Nat) {most : Int} (h : 0 < most) : 1 ≤ (sidesOf ns first most).length ∧ ((sidesOf ns first most).length : Int) ≤ most := by
  unfold sidesOf
  rw [List.length_map, List.length_range]
  have c0 : 0 ≤ cellAt ns first % most := Int.emod_nonneg _ (by omega)
  have c1 : cellAt ns first % most < most := Int.emod_lt_of_pos _ h
  omega
/-- a list of parts -/
structure GoodL (D : Nat) (ws : List Rat) : Prop where
  dp : 0 < D
  all : ∀ q ∈ ws, In01 q ∧ IsD D q
theorem GoodL.good {D : Nat} {ws : List Rat} (h : GoodL D ws) : Good D ws.length (at0 ws) := by
  have m : ∀ k, k < ws.length → at0 ws k ∈ ws := fun k hk => List.mem_of_getElem? (at0_get hk)
  exact ⟨h.dp, fun k hk => (h.all _ (m k hk)).1, fun k hk => (h.all _ (m k hk)).2⟩
theorem GoodL.unit {D : Nat} {ws : List Rat} (h : GoodL D ws) : Unit1 ws := fun q hq => unit_in (h.all q hq).1
theorem sides_good (ns : List Int) (first : Nat) (most : Int) : GoodL 60 (sidesOf ns first most) := by
  refine ⟨by decide, fun q hq => ?_⟩
  obtain ⟨k, _, rfl⟩ := List.mem_map.mp hq
  exact side_good _
theorem mom_range (c : Int) (n : Nat) : 0 ≤ momOf c n ∧ momOf c n ≤ 40 := by
  unfold momOf
  split
  · have a0 : 0 ≤ c / 52 % 41 := Int.emod_nonneg _ (by decide)
    have a1 : c / 52 % 41 < 41 := Int.emod_lt_of_pos _ (by decide)
    omega
  · have a0 : 0 ≤ c % 13 := Int.emod_nonneg _ (by decide)
    have a1 : c % 13 < 13 := Int.emod_lt_of_pos _ (by decide)
    omega
theorem pow60 {m : Nat} (h : m ≤ 40) : 60 ^ m < 2 ^ 4500 := by
  have h1 : 60 ^ m ≤ 60 ^ 40 := Nat.pow_le_pow_right (by decide) h
  have h2 : (60 : Nat) ^ 40 < 2 ^ 250 := by decide
  exact Nat.lt_of_lt_of_le (Nat.lt_of_le_of_lt h1 h2) (Nat.pow_le_pow_right (by decide) (by decide))
end Ef
namespace Ef
open PySem PySem.Spec PyProof.Rows L2
/-! ### the head's facts of fields and constants -/
section
variable {fa : List He.Fa} {fn : List He.DefD} {xb : PySem.W.Frag → Bool} {K : PySem.W.Frag} {h : Heap} {mg : Str → Option Value}
theorem konst_of {x : Str} {q : Rat} (hf : mg x = some (.ref (He.ga K x))) (hb : He.tupB K x [.int q.num, .int (q.den : Int)] = true) : KonstQ K mg x q := ⟨He.ga K x, hf, fun H => ⟨_, rfl, He.tupB_ok hb H⟩⟩
def fieldFa : List He.Fa := [.glo "Field", .cls "Field", .noat "Field" "parts", .meth "Field" "walls", .mkr "Field"]
theorem ftx_of (c : SaysX fa fn xb K) (X : K.In h) (G : h.Ns mainGlobals mg) (j : Nat) (h0 : fa[j]? = some (.glo "Field") := by rfl) (h1 : fa[j + 1]? = some (.cls "Field") := by rfl) (h2 : fa[j + 2]? = some (.noat "Field" "parts") := by rfl) : FTx K mg :=
  ⟨He.cls_ok (c.d.fact (j + 1) h1), He.noat_ok (c.d.fact (j + 2) h2), He.glo_ok X G (c.d.fact j h0)⟩
def xbK (K : PySem.W.Frag) : Bool := He.tupB K "NOUGHT" [.int 0, .int 1] && He.tupB K "ONE" [.int 1, .int 1]
end
end Ef
namespace Ef
/-! ### sums -/
def lsum : List Rat → Rat
  | [] => 0
  | q :: r => q + lsum r
theorem lsum_app : ∀ (l r : List Rat), lsum (l ++ r) = lsum l + lsum r
  | [], r => (Rat.zero_add _).symm
  | q :: l, r => by
    show q + lsum (l ++ r) = q + lsum l + lsum r
    rw [lsum_app l r]
    grind
theorem lsum_push (l : List Rat) (q : Rat) : lsum (l ++ [q]) = lsum l + q := by
  rw [lsum_app]
  show lsum l + (q + 0) = lsum l + q
  grind
def sumTo (f : Nat → Rat) (n : Nat) : Rat := lsum ((List.range n).map f)
theorem sumTo_succ (f : Nat → Rat) (n : Nat) : sumTo f (n + 1) = sumTo f n + f n := by
  unfold sumTo
  rw [List.range_succ, List.map_append]
  exact lsum_push _ _
theorem sumTo_zero (f : Nat → Rat) : sumTo f 0 = 0 := rfl
theorem step_part (n : Nat) (W r l : Nat → Rat) : ∀ i, i ≤ n → sumTo (nR W r l) (i + 1) + sumTo (nL n W r l) i = sumTo r i + sumTo l (i + 1) - l 0
  | 0, _ => by
    rw [sumTo_succ, sumTo_succ, sumTo_zero, sumTo_zero, sumTo_zero, sumTo_zero]
    have e : nR W r l 0 = 0 := rfl
    rw [e]
    grind
  | i + 1, h => by
    have ih := step_part n W r l i (by omega)
    rw [sumTo_succ _ (i + 1), sumTo_succ (nL n W r l) i, sumTo_succ r i, sumTo_succ l (i + 1)]
    have e1 : nR W r l (i + 1) = r i * (1 - W i) + l (i + 1) * W i := by
      unfold nR
      rw [if_neg (by omega), Nat.add_sub_cancel]
    have e2 : nL n W r l i = r i * W i + l (i + 1) * (1 - W i) := by
      unfold nL
      rw [if_pos (by omega)]
    rw [e1, e2]
    grind
theorem step_sum (n : Nat) (W r l : Nat → Rat) : sumTo (nR W r l) (n + 1) + sumTo (nL n W r l) (n + 1) = sumTo r (n + 1) + sumTo l (n + 1) - r n - l 0 := by
  have h := step_part n W r l n (Nat.le_refl _)
  have e : nL n W r l n = 0 := by
    unfold nL
    rw [if_neg (by omega)]
  rw [sumTo_succ (nL n W r l) n, e, sumTo_succ r n]
  grind
theorem all_one (n : Nat) (W : Nat → Rat) : ∀ m, sumTo (goR n W m) (n + 1) + sumTo (goL n W m) (n + 1) + lsum (ears n W m) + lsum (gone n W m) = 1
  | 0 => by
    have z : ∀ (f : Nat → Rat) (k : Nat), (∀ j, 0 < j → f j = 0) → sumTo f (k + 1) = f 0 := by
      intro f k hf
      induction k with
      | zero => rw [sumTo_succ, sumTo_zero]; grind
      | succ k ih => rw [sumTo_succ, ih, hf (k + 1) (by omega)]; grind
    rw [z (goR n W 0) n (fun j hj => by show (if j = 0 then (1 : Rat) else 0) = 0; rw [if_neg (by omega)]), z (goL n W 0) n (fun j _ => rfl)]
    show (1 : Rat) + 0 + 0 + 0 = 1
    grind
  | m + 1 => by
    have ih := all_one n W m
    rw [ears_succ, gone_succ, lsum_push, lsum_push]
    have h := step_sum n W (goR n W m) (goL n W m)
    have e1 : goR n W (m + 1) = nR W (goR n W m) (goL n W m) := rfl
    have e2 : goL n W (m + 1) = nL n W (goR n W m) (goL n W m) := rfl
    rw [e1, e2]
    grind
/-! ### where nothing goes -/
theorem parity (n : Nat) (W : Nat → Rat) : ∀ t j, ((j + t) % 2 = 1 → goR n W t j = 0) ∧ ((j + t) % 2 = 0 → goL n W t j = 0)
  | 0, j => by
    refine ⟨fun h => ?_, fun _ => rfl⟩
    show (if j = 0 then (1 : Rat) else 0) = 0
    rw [if_neg (by omega)]
  | t + 1, j => by
    refine ⟨fun h => ?_, fun h => ?_⟩
    · show nR W (goR n W t) (goL n W t) j = 0
      unfold nR
      split
      · rfl
      · rw [(parity n W t (j - 1)).1 (by omega), (parity n W t j).2 (by omega)]
        grind
    · show nL n W (goR n W t) (goL n W t) j = 0
      unfold nL
      split
      · rw [(parity n W t j).1 (by omega), (parity n W t (j + 1)).2 (by omega)]
        grind
      · rfl
theorem ears_take (n : Nat) (W : Nat → Rat) {k m : Nat} (h : k ≤ m) : (ears n W m).take k = ears n W k := by
  unfold ears
  rw [← List.map_take, List.take_range, Nat.min_eq_left h]
theorem gone_take (n : Nat) (W : Nat → Rat) {k m : Nat} (h : k ≤ m) : (gone n W m).take k = gone n W k := by
  unfold gone
  rw [← List.map_take, List.take_range, Nat.min_eq_left h]
theorem ears_get (n : Nat) (W : Nat → Rat) {k m : Nat} (h : k < m) : (ears n W m)[k]? = some (goL n W k 0) := by
  unfold ears
  rw [List.getElem?_map, List.getElem?_range h]
  rfl
theorem gone_get (n : Nat) (W : Nat → Rat) {k m : Nat} (h : k < m) : (gone n W m)[k]? = some (goR n W k n) := by
  unfold gone
  rw [List.getElem?_map, List.getElem?_range h]
  rfl
/-! ### parts of a sum that comes to one -/
theorem lsum_nonneg : ∀ {l : List Rat}, (∀ q ∈ l, 0 ≤ q) → 0 ≤ lsum l
  | [], _ => Rat.le_refl
  | q :: r, h => Rat.add_nonneg (h q List.mem_cons_self) (lsum_nonneg fun p hp => h p (List.mem_cons_of_mem _ hp))
theorem lsum_isD {D : Nat} : ∀ {l : List Rat}, (∀ q ∈ l, IsD D q) → IsD D (lsum l)
  | [], _ => IsD.zero D
  | q :: r, h => (h q List.mem_cons_self).add (lsum_isD fun p hp => h p (List.mem_cons_of_mem _ hp))
/-- a list of small strengths that come to one -/
structure OneL (D : Nat) (l : List Rat) : Prop where
  dp : 0 < D
  dl : D < 2 ^ 4500
  nn : ∀ q ∈ l, 0 ≤ q
  d : ∀ q ∈ l, IsD D q
  le : lsum l ≤ 1
theorem OneL.pre {D : Nat} {l r : List Rat} (h : OneL D (l ++ r)) : Sm (lsum l) := by
  have a : ∀ q ∈ l, 0 ≤ q := fun q hq => h.nn q (List.mem_append_left _ hq)
  have b : ∀ q ∈ r, 0 ≤ q := fun q hq => h.nn q (List.mem_append_right _ hq)
  have n1 := lsum_nonneg a
  have n2 := lsum_nonneg b
  have e := h.le
  rw [lsum_app] at e
  exact sm_of h.dp h.dl (lsum_isD fun q hq => h.d q (List.mem_append_left _ hq)) (by grind) (by grind)
theorem OneL.mem {D : Nat} {l : List Rat} (h : OneL D l) {q : Rat} (hq : q ∈ l) : Sm q := by
  obtain ⟨s, t, rfl⟩ := List.append_of_mem hq
  have n1 := lsum_nonneg (l := s) fun p hp => h.nn p (List.mem_append_left _ hp)
  have n2 := lsum_nonneg (l := t) fun p hp => h.nn p (List.mem_append_right _ (List.mem_cons_of_mem _ hp))
  have e := h.le
  rw [lsum_app] at e
  have e2 : lsum (q :: t) = q + lsum t := rfl
  rw [e2] at e
  have q0 := h.nn q hq
  exact sm_of h.dp h.dl (h.d q hq) (by grind) (by grind)
theorem mem_tab {n : Nat} {f : Nat → Rat} {q : Rat} (h : q ∈ tab n f) : ∃ j, j ≤ n ∧ f j = q := by
  obtain ⟨j, hj, e⟩ := List.mem_map.mp h
  exact ⟨j, by have := List.mem_range.mp hj; omega, e⟩
theorem lsum_tab (n : Nat) (f : Nat → Rat) : lsum (tab n f) = sumTo f (n + 1) := rfl
theorem up_pow {D t m : Nat} {q : Rat} (h : t ≤ m) (hq : IsD (D ^ t) q) : IsD (D ^ m) q := by
  have e : D ^ m = D ^ t * D ^ (m - t) := by rw [← Nat.pow_add, Nat.add_sub_cancel' h]
  rw [e]
  exact hq.up _
theorem run_one {D n m : Nat} {W : Nat → Rat} (g : Good D n W) (hb : D ^ m < 2 ^ 4500) :
    OneL (D ^ m) (tab n (goR n W m) ++ tab n (goL n W m) ++ ears n W m ++ gone n W m) := by
  have mem : ∀ q, q ∈ tab n (goR n W m) ++ tab n (goL n W m) ++ ears n W m ++ gone n W m → 0 ≤ q ∧ IsD (D ^ m) q := by
    intro q hq
    rcases List.mem_append.mp hq with hq | hq
    · rcases List.mem_append.mp hq with hq | hq
      · rcases List.mem_append.mp hq with hq | hq
        · obtain ⟨j, hj, rfl⟩ := mem_tab hq
          have := (state_good g m j hj).1
          exact ⟨this.1.1, this.2⟩
        · obtain ⟨j, hj, rfl⟩ := mem_tab hq
          have := (state_good g m j hj).2
          exact ⟨this.1.1, this.2⟩
      · obtain ⟨t, ht, rfl⟩ := List.mem_map.mp hq
        have ht := List.mem_range.mp ht
        have := (state_good g t 0 (Nat.zero_le _)).2
        exact ⟨this.1.1, up_pow (Nat.le_of_lt ht) this.2⟩
    · obtain ⟨t, ht, rfl⟩ := List.mem_map.mp hq
      have ht := List.mem_range.mp ht
      have := (state_good g t n (Nat.le_refl _)).1
      exact ⟨this.1.1, up_pow (Nat.le_of_lt ht) this.2⟩
  refine ⟨Nat.pow_pos g.dp, hb, fun q hq => (mem q hq).1, fun q hq => (mem q hq).2, ?_⟩
  rw [lsum_app, lsum_app, lsum_app, lsum_tab, lsum_tab, all_one]
  exact Rat.le_refl
theorem Rats.take {K : PySem.W.Frag} {H : L2.Hp} {xs : List L2.V} {qs : List Rat} (h : Rats K H xs qs) (j : Nat) : Rats K H (xs.take j) (qs.take j) := by
  refine ⟨by rw [List.length_take, List.length_take, h.1], fun i v q a b => ?_⟩
  rw [List.getElem?_take] at a b
  split at a
  · rw [if_pos (by assumption)] at b
    exact h.2 i v q a b
  · cases a
end Ef
namespace Ef
open PySem PySem.Spec PyProof.Rows L2 RT
/-! ### list(reversed(a list)) -/
section
variable {prog : Program} {w : World} {A : Around} {E : Value → Shared → Prop} {s : Shared} {R : Result → Shared → Prop}
/-- a fresh list at S takes what the reverse iterator at J gives -/
theorem grow_rev {J l S : Addr} {vs : Array Value} {c0 : Nat} {res : Value} (hh : A.handled = none) (hJ : s.heap.IsRevIter J l ((vs.size : Int) - 1)) (hl : s.heap.IsList l vs) (hlJ : l ≠ J) (hS : s.heap.get? S = some { cls := .type "list", data := .seq #[] c0 })
    (hSJ : S ≠ J) (hSl : S ≠ l) (hn : vs.size ≤ sizeLine)
    (hR : ∀ (g : Shared) (acc : Array Value) (c : Nat), Moved [S, J] (fun a b => b = a) s g → g.heap.get? S = some { cls := .type "list", dict := none, data := .seq acc c, slots := #[] } → ItemsOf (fun i v => vs[vs.size - 1 - i]? = some v) acc vs.size → R (.ok (.ret res)) g) :
    wpAny (model prog w) A.in1 (Builtin.List.listExtendWith (.ref S) (.ref J) res)
      (fun fin g => match fin with | .done f => R (.ok f) g | .again c' => c'.quiet = true ∧ codeAny (model prog w) A c' R g) (fun e g => R (.error e) g) s := by
  have V := (Walks.listRev (prog := prog) (w := w) (A := A.in1) hh J l hlJ vs).toS
  have hout : S ∉ [J, l] := by simp [hSJ, hSl]
  have tJ : s.TypeIs (.ref J) "list_reverseiterator" := hJ.typeIs
  have dif : Builtin.List.listSameRef (.ref S) (.ref J) = false := by simp [Builtin.List.listSameRef, hSJ]
  unfold Builtin.List.listExtendWith
  refine wpAny_bind (wpAny_typeOf tJ ?_)
  rw [if_neg (by rw [dif]; decide)]
  refine wpAny_bind (wpAny_pyIter_revIter hJ (wpAny_bind (wpAny_holding ?_)))
  unfold Builtin.List.listLengthHint
  refine wpAny_bind (wpAny_specialOf tJ nolen_lri ?_)
  show wpAny _ A.in1 (specialOf (Value.ref J) (Str.ofString "__length_hint__") >>= _) _ _ _
  refine wpAny_bind (wpAny_specialOf tJ hint_lri ?_)
  generalize hx : ("list_reverseiterator.__length_hint__" : String) = y
  wp_delta
  rw [show splitId y = some ("list_reverseiterator", "__length_hint__") from by subst hx; decide +kernel]
  subst hx
  refine wpAny_bind (wpAny_isInstance (b := true) tJ (by rw [isSubtype_type]; kernel_rfl) (wpAny_pure ?_))
  rw [if_neg (by decide)]
  have ez : ((vs.size : Nat) : Int) - 1 - ((0 : Nat) : Int) = (vs.size : Int) - 1 := by omega
  refine wpAny_pure ⟨plainId_quiet F.plain_extend_loop _, codeAny_extend_loopS V hn S hout res vs.size 0 s #[] c0 rfl (Nat.zero_le _) ⟨Nat.zero_le _, by rw [ez]; exact hJ, hl⟩ hS (ItemsOf.nil _) fun g acc c hm hg ha => ?_⟩
  exact hR g acc c hm hg ha
/-- list(J), J such an iterator -/
theorem call_list_rev {J l : Addr} {vs : Array Value} {Q : Value → Shared → Prop} (hh : A.handled = none) (hJ : s.heap.IsRevIter J l ((vs.size : Int) - 1)) (hl : s.heap.IsList l vs) (hlJ : l ≠ J) (hn : vs.size ≤ sizeLine)
    (hQ : ∀ (g : Shared) (acc : Array Value) (c : Nat), (∀ b o, b ≠ J → s.heap.get? b = some o → g.heap.get? b = some o) → g.gens = s.gens → g.drawn = s.drawn → g.os = s.os →
      g.heap.get? s.heap.objs.size = some { cls := .type "list", dict := none, data := .seq acc c, slots := #[] } → ItemsOf (fun i v => vs[vs.size - 1 - i]? = some v) acc vs.size → Q (.ref s.heap.objs.size) g) :
    wpAny (model prog w) A (call (.type "list") [.ref J]) Q E s := by
  obtain ⟨oJ, hoJ, _⟩ := id hJ
  obtain ⟨ol, hol, _⟩ := id hl
  have fJ : s.heap.objs.size ≠ J := Nat.ne_of_gt (Heap.lt_size hoJ)
  have fl : s.heap.objs.size ≠ l := Nat.ne_of_gt (Heap.lt_size hol)
  have h2 : A.in1.handled = none := hh
  refine callType_codes (Q₁ := fun u g => u = .ref s.heap.objs.size ∧ g = { s with heap := s.heap.push { cls := .type "list", data := .seq #[] } }) F.called_list (F.typeCall_list_1 _) F.entry_list_init (code_list_new _ ⟨rfl, rfl⟩) fun u g hg => ?_
  obtain ⟨rfl, rfl⟩ := hg
  have e0 : (s.heap.push { cls := .type "list", data := .seq #[] }).get? s.heap.objs.size = some { cls := .type "list", data := .seq #[] } := Heap.get?_push_size _ rfl
  refine ⟨⟨_, e0, rfl⟩, F.args_list_init_2 _ _, ?_⟩
  show wpAny _ A.in1.in1 (do let old ← Builtin.List.listItems (.ref s.heap.objs.size); Builtin.List.listUpdate (.ref s.heap.objs.size) (fun _ => #[]); letGo old.toList.reverse; Builtin.List.listExtendWith (.ref s.heap.objs.size) (.ref J) .none) _ _ _
  refine wpAny_bind ?_
  unfold Builtin.List.listItems
  refine wpAny_bind (wpAny_seqItems e0 rfl (wpAny_pure ?_))
  show wpAny _ A.in1.in1 (updateSeq s.heap.objs.size (fun _ => #[]) >>= fun _ => letGo (#[] : Array Value).toList.reverse >>= fun _ => Builtin.List.listExtendWith (.ref s.heap.objs.size) (.ref J) .none) _ _ _
  refine wpAny_bind (wpAny_updateSeq e0 rfl ?_)
  have e1 := Heap.get?_update_self (Obj.mapSeq (fun _ => (#[] : Array Value))) e0 rfl
  have kp : ∀ b o, b ≠ s.heap.objs.size → (s.heap.push { cls := .type "list", data := .seq #[] }).get? b = some o → ((s.heap.push { cls := .type "list", data := .seq #[] }).update s.heap.objs.size (Obj.mapSeq (fun _ => (#[] : Array Value)))).get? b = some o :=
    fun b o hb q => (Heap.get?_update_other _ _ (Ne.symm hb)).trans q
  refine wpAny_bind (wpAny_letGo ?_)
  refine grow_rev (s := { s with heap := (s.heap.push { cls := .type "list", data := .seq #[] }).update s.heap.objs.size (Obj.mapSeq (fun _ => (#[] : Array Value))) }) h2 (hJ.at fun o q => kp J o fJ.symm (Heap.get?_push_of_some _ q)) ?_ hlJ e1 fJ fl hn fun g acc c hm hg ha => ?_
  · obtain ⟨o, ho, hc, n, hd⟩ := hl
    exact ⟨o, kp l o fl.symm (Heap.get?_push_of_some _ ho), hc, n, hd⟩
  · refine ⟨rfl, hQ g acc c (fun b o hb q => ?_) hm.gens hm.drawn hm.os hg ha⟩
    have hbs : b ≠ s.heap.objs.size := Nat.ne_of_lt (Heap.lt_size q)
    exact hm.heap b o (by simp [hbs, hb]) (kp b o hbs (Heap.get?_push_of_some _ q))
end
def tListRev (K : PySem.W.Frag) (te : TE) : TE := fun σ H Q => te σ H fun v H1 => ∃ (a : Addr) (xs : List V), v = .ref a ∧ SqL K H1 a xs ∧ ∀ q, H1 q = none → Q (.ref q) (upd H1 q (.lst xs.reverse))
section
variable {X : Cx}
theorem pe_listRev {e : Expr} {te : TE} {n1 n2 c1 c2 : Pos} (hc : X.calm = true) (hg : Gl X "list") (hm : X.mg "list" = none) (hg2 : Gl X "reversed") (hm2 : X.mg "reversed" = none) (he : PE X e te)
    (ha : starEach [e] X.env = (false, eval e X.env) :: starEach [] X.env := by rfl)
    (hb : starEach [.Call (.Name "reversed" n2) [e] [] c2] X.env = (false, eval (.Call (.Name "reversed" n2) [e] [] c2) X.env) :: starEach [] X.env := by rfl) :
    PE X (.Call (.Name "list" n1) [.Call (.Name "reversed" n2) [e] [] c2] [] c1) (tListRev X.K te) := by
  refine ⟨fun pins s σ H Q I h => ?_⟩
  refine Call_ (ld_blt I hg hm (by decide +kernel : bootBuiltins "list" = some (.type "list")) (PyProof.Rows.callWith_type1 (args_cons (Call_ (ld_blt I hg2 hm2 PyProof.Rows.boot_reversed (PyProof.Rows.callWith_type1 (args_cons (thn (he.run pins s σ H _ I h) fun u s1 ⟨v, H1, I1, r1, q1⟩ => args_nil ?_) ha) ha rfl))) hb) hb rfl))
  obtain ⟨l, xs, rfl, hq, q⟩ := q1
  obtain rfl : u = Value.ref l := r1
  obtain ⟨its, rv, pl, hz⟩ := I1.list hq
  refine call_reversed_list pl.isList (args_nil ?_)
  have up : ∀ b o, s1.heap.get? b = some o → (s1.heap.push (revObj l ((its.toArray.size : Int) - 1))).get? b = some o := fun b o z => Heap.get?_push_of_some _ z
  have I2 : Inv X pins σ H1 { s1 with heap := s1.heap.push (revObj l ((its.toArray.size : Int) - 1)) } := I1.kept (t' := s1.toks) up
  have fp : FpOk X pins H1 s1.heap.objs.size := I1.fpOk (H' := H1) (b := s1.heap.objs.size) (Nat.le_refl _) (I1.hok.fresh (Nat.le_refl _))
  have hl := pl.isList
  obtain ⟨ol, hol, _⟩ := id hl
  have hlJ : l ≠ s1.heap.objs.size := Nat.ne_of_lt (Heap.lt_size hol)
  have hn : its.toArray.size ≤ sizeLine := by rw [List.size_toArray, ← rv.length]; exact hz
  refine call_list_rev (s := { s1 with heap := s1.heap.push (revObj l ((its.toArray.size : Int) - 1)) }) (I1.ok.hd hc) ⟨_, Heap.get?_push_size _ rfl, rfl, rfl⟩ (hl.push _) hlJ hn fun g acc c hk h1 h2 h3 hS hi => ?_
  obtain ⟨gh, gg, gd, gt, go⟩ := g
  obtain rfl : gg = s1.gens := h1
  obtain rfl : gd = s1.drawn := h2
  obtain rfl : go = s1.os := h3
  refine ⟨.ref _, upd H1 _ (.lst xs.reverse), I2.turnedNew (t' := gt) (ch := [s1.heap.objs.size]) (fun b o z y => hk b o (fun e => z (by rw [e]; exact List.mem_cons_self)) y) (fun b z => by rw [List.mem_singleton.mp z]; exact fp) (Nat.le_refl _) (show ObjOk X.prog X.w _ _ _ (.lst xs.reverse) from ⟨by rw [List.length_reverse]; exact hz, acc.toList, c, vals_rev rv hi, ?_⟩), rfl, q _ (I2.hok.fresh (Nat.le_refl _))⟩
  rw [Array.toArray_toList]
  exact hS
end
theorem Rats.rev {K : PySem.W.Frag} {H : Hp} {xs : List V} {qs : List Rat} (h : Rats K H xs qs) : Rats K H xs.reverse qs.reverse := by
  refine ⟨by rw [List.length_reverse, List.length_reverse, h.1], fun i v q a b => ?_⟩
  have hi : i < xs.length := by
    have := (List.getElem?_eq_some_iff.mp a).1
    rwa [List.length_reverse] at this
  rw [List.getElem?_reverse hi] at a
  rw [List.getElem?_reverse (by rw [← h.1]; exact hi), ← h.1] at b
  exact h.2 _ v q a b
/-! ### fields turned and joined -/
def spTurned (K : PySem.W.Frag) : Sp := fun vs H Q _ => ∃ (f l : Addr) (ws : List Rat), vs = [.ref f] ∧ FieldAt K H f l ws ∧ 1 ≤ ws.length ∧ ws.length ≤ 8 ∧ Unit1 ws ∧
  ∀ (p m : Addr) (H' : Hp), H p = none → Same H H' → FieldAt K H' p m ws.reverse → Q (.ref p) H'
def spJoined (K : PySem.W.Frag) : Sp := fun vs H Q _ => ∃ (f l g m : Addr) (ws us : List Rat), vs = [.ref f, .ref g] ∧ FieldAt K H f l ws ∧ FieldAt K H g m us ∧ 1 ≤ ws.length ∧ ws.length + us.length ≤ 8 ∧ Unit1 ws ∧ Unit1 us ∧
  ∀ (p r : Addr) (H' : Hp), H p = none → Same H H' → FieldAt K H' p r (ws ++ us) → Q (.ref p) H'
theorem Unit1.app {ws us : List Rat} (h : Unit1 ws) (g : Unit1 us) : Unit1 (ws ++ us) := fun q hq => (List.mem_append.mp hq).elim (h q) (g q)
theorem Unit1.rev {ws : List Rat} (h : Unit1 ws) : Unit1 ws.reverse := fun q hq => h q (List.mem_reverse.mp hq)
end Ef
namespace Ef
/-! ### from the other end -/
theorem sumTo_shift (f : Nat → Rat) : ∀ n, sumTo f (n + 1) = f 0 + sumTo (fun i => f (i + 1)) n
  | 0 => by
    rw [sumTo_succ, sumTo_zero, sumTo_zero]
    grind
  | n + 1 => by
    rw [sumTo_succ f (n + 1), sumTo_shift f n, sumTo_succ (fun i => f (i + 1)) n]
    grind
theorem sumTo_congr {f g : Nat → Rat} : ∀ {n : Nat}, (∀ i, i < n → f i = g i) → sumTo f n = sumTo g n
  | 0, _ => rfl
  | n + 1, h => by
    rw [sumTo_succ, sumTo_succ, sumTo_congr (n := n) (fun i hi => h i (by omega)), h n (by omega)]
theorem sumTo_add (f g : Nat → Rat) : ∀ n, sumTo (fun i => f i + g i) n = sumTo f n + sumTo g n
  | 0 => by
    rw [sumTo_zero, sumTo_zero, sumTo_zero]
    grind
  | n + 1 => by
    rw [sumTo_succ, sumTo_succ, sumTo_succ, sumTo_add f g n]
    grind
/-- one field's sounds against the turned one's -/
def pair (n : Nat) (r l r2 l2 : Nat → Rat) : Rat := sumTo (fun i => r i * r2 (n - i)) (n + 1) + sumTo (fun i => l i * l2 (n - i)) (n + 1)
theorem pair_step {n : Nat} {W V : Nat → Rat} (h : ∀ i, i < n → V (n - 1 - i) = W i) (r l r2 l2 : Nat → Rat) :
    pair n (nR W r l) (nL n W r l) r2 l2 = pair n r l (nR V r2 l2) (nL n V r2 l2) := by
  unfold pair
  rw [sumTo_shift, sumTo_succ (fun i => nL n W r l i * l2 (n - i)) n, sumTo_succ (fun i => r i * nR V r2 l2 (n - i)) n, sumTo_shift (fun i => l i * nL n V r2 l2 (n - i)) n]
  have e1 : nR W r l 0 = 0 := rfl
  have e2 : nL n W r l n = 0 := by
    unfold nL
    rw [if_neg (by omega)]
  have e3 : nR V r2 l2 (n - n) = 0 := by
    rw [Nat.sub_self]
    rfl
  have e4 : nL n V r2 l2 (n - 0) = 0 := by
    unfold nL
    rw [if_neg (by omega)]
  simp only [e1, e2, e3, e4]
  have k : sumTo (fun i => nR W r l (i + 1) * r2 (n - (i + 1)) + nL n W r l i * l2 (n - i)) n = sumTo (fun i => r i * nR V r2 l2 (n - i) + l (i + 1) * nL n V r2 l2 (n - (i + 1))) n := by
    refine sumTo_congr fun i hi => ?_
    have a1 : nR W r l (i + 1) = r i * (1 - W i) + l (i + 1) * W i := by
      unfold nR
      rw [if_neg (by omega), Nat.add_sub_cancel]
    have a2 : nL n W r l i = r i * W i + l (i + 1) * (1 - W i) := by
      unfold nL
      rw [if_pos (by omega)]
    obtain ⟨j, hj⟩ : ∃ j, n - 1 - i = j := ⟨_, rfl⟩
    have ej : n - (i + 1) = j := by omega
    have ej1 : n - i = j + 1 := by omega
    have hv := h i hi
    rw [hj] at hv
    have a3 : nR V r2 l2 (j + 1) = r2 j * (1 - V j) + l2 (j + 1) * V j := by
      unfold nR
      rw [if_neg (by omega), Nat.add_sub_cancel]
    have a4 : nL n V r2 l2 j = r2 j * V j + l2 (j + 1) * (1 - V j) := by
      unfold nL
      rw [if_pos (by omega)]
    show nR W r l (i + 1) * r2 (n - (i + 1)) + nL n W r l i * l2 (n - i) = r i * nR V r2 l2 (n - i) + l (i + 1) * nL n V r2 l2 (n - (i + 1))
    rw [ej, ej1, a1, a2, a3, a4, hv]
    grind
  rw [sumTo_add, sumTo_add] at k
  grind
theorem pair_run {n : Nat} {W V : Nat → Rat} (h : ∀ i, i < n → V (n - 1 - i) = W i) : ∀ s t, pair n (goR n W (s + t)) (goL n W (s + t)) (goR n V 0) (goL n V 0) = pair n (goR n W s) (goL n W s) (goR n V t) (goL n V t)
  | s, 0 => rfl
  | s, t + 1 => by
    have ih := pair_run h (s + 1) t
    have e : s + 1 + t = s + (t + 1) := by omega
    rw [e] at ih
    rw [ih]
    exact pair_step h _ _ _ _
theorem sumTo_nought (n : Nat) : sumTo (fun _ => 0) n = 0 := by
  induction n with
  | zero => rfl
  | succ k ih => rw [sumTo_succ, ih]; grind
theorem sumTo_one {f : Nat → Rat} {k : Nat} : ∀ {n : Nat}, k < n → (∀ i, i < n → i ≠ k → f i = 0) → sumTo f n = f k
  | 0, h, _ => by omega
  | n + 1, h, z => by
    rw [sumTo_succ]
    by_cases e : k = n
    · subst e
      have : sumTo f k = 0 := by
        rw [← sumTo_nought k]
        exact sumTo_congr fun i hi => z i (by omega) (by omega)
      rw [this]
      grind
    · rw [sumTo_one (n := n) (by omega) (fun i hi => z i (by omega)), z n (by omega) (fun q => e q.symm)]
      grind
theorem turn_at {n : Nat} {W V : Nat → Rat} (h : ∀ i, i < n → V (n - 1 - i) = W i) (t : Nat) : goR n W t n = goR n V t n := by
  have e := pair_run h 0 t
  rw [Nat.zero_add] at e
  unfold pair at e
  have z0 : ∀ U j, goR n U 0 j = if j = 0 then 1 else 0 := fun _ _ => rfl
  have z1 : ∀ U j, goL n U 0 j = 0 := fun _ _ => rfl
  have a1 : sumTo (fun i => goR n W t i * goR n V 0 (n - i)) (n + 1) = goR n W t n := by
    rw [sumTo_one (k := n) (by omega) (fun i hi ne => by rw [z0, if_neg (by omega)]; grind)]
    rw [z0, if_pos (by omega)]
    grind
  have a2 : sumTo (fun i => goL n W t i * goL n V 0 (n - i)) (n + 1) = 0 := by
    rw [← sumTo_nought (n + 1)]
    exact sumTo_congr fun i hi => by rw [z1]; grind
  have a3 : sumTo (fun i => goR n W 0 i * goR n V t (n - i)) (n + 1) = goR n V t n := by
    rw [sumTo_one (k := 0) (by omega) (fun i hi ne => by rw [z0, if_neg ne]; grind)]
    rw [z0, if_pos rfl, Nat.sub_zero]
    grind
  have a4 : sumTo (fun i => goL n W 0 i * goL n V t (n - i)) (n + 1) = 0 := by
    rw [← sumTo_nought (n + 1)]
    exact sumTo_congr fun i hi => by rw [z1]; grind
  rw [a1, a2, a3, a4] at e
  grind
theorem gone_rev (ws : List Rat) (m : Nat) : gone ws.reverse.length (at0 ws.reverse) m = gone ws.length (at0 ws) m := by
  rw [List.length_reverse]
  unfold gone
  refine List.map_congr_left fun t _ => (turn_at (fun i hi => ?_) t).symm
  unfold at0
  rw [List.getD_eq_getElem?_getD, List.getD_eq_getElem?_getD, List.getElem?_reverse (by omega)]
  congr 2
  omega
theorem GoodL.rev {D : Nat} {ws : List Rat} (h : GoodL D ws) : GoodL D ws.reverse := ⟨h.dp, fun q hq => h.all q (List.mem_reverse.mp hq)⟩
theorem GoodL.app {D : Nat} {ws vs : List Rat} (h : GoodL D ws) (g : GoodL D vs) : GoodL D (ws ++ vs) := ⟨h.dp, fun q hq => (List.mem_append.mp hq).elim (h.all q) (g.all q)⟩
end Ef
namespace Ef
/-! ### what is heard and lost in all -/
/-- what of a sound in cell j going right, left is lost at last -/
structure Harm (n : Nat) (W u v : Nat → Rat) : Prop where
  er : ∀ j, j < n → u j = (1 - W j) * u (j + 1) + W j * v j
  el : ∀ j, j < n → v (j + 1) = W j * u (j + 1) + (1 - W j) * v j
  ru : ∀ j, j ≤ n → In01 (u j)
  rv : ∀ j, j ≤ n → In01 (v j)
  un : u n = 1
  v0 : v 0 = 0
def wsum (n : Nat) (u v r l : Nat → Rat) : Rat := sumTo (fun i => r i * u i) (n + 1) + sumTo (fun i => l i * v i) (n + 1)
theorem wsum_step {n : Nat} {W u v : Nat → Rat} (h : Harm n W u v) (r l : Nat → Rat) : wsum n u v (nR W r l) (nL n W r l) + r n = wsum n u v r l := by
  unfold wsum
  rw [sumTo_shift, sumTo_succ (fun i => nL n W r l i * v i) n, sumTo_succ (fun i => r i * u i) n, sumTo_shift (fun i => l i * v i) n]
  have e1 : nR W r l 0 = 0 := rfl
  have e2 : nL n W r l n = 0 := by
    unfold nL
    rw [if_neg (by omega)]
  simp only [e1, e2, h.v0, h.un]
  have k : sumTo (fun i => nR W r l (i + 1) * u (i + 1) + nL n W r l i * v i) n = sumTo (fun i => r i * u i + l (i + 1) * v (i + 1)) n := by
    refine sumTo_congr fun i hi => ?_
    have a1 : nR W r l (i + 1) = r i * (1 - W i) + l (i + 1) * W i := by
      unfold nR
      rw [if_neg (by omega), Nat.add_sub_cancel]
    have a2 : nL n W r l i = r i * W i + l (i + 1) * (1 - W i) := by
      unfold nL
      rw [if_pos (by omega)]
    have a3 := h.er i hi
    have a4 := h.el i hi
    show nR W r l (i + 1) * u (i + 1) + nL n W r l i * v i = r i * u i + l (i + 1) * v (i + 1)
    rw [a1, a2, a3, a4]
    grind
  rw [sumTo_add, sumTo_add] at k
  grind
theorem wsum_run {n : Nat} {W u v : Nat → Rat} (h : Harm n W u v) : ∀ m, wsum n u v (goR n W m) (goL n W m) + lsum (gone n W m) = u 0
  | 0 => by
    have z0 : ∀ j, goR n W 0 j = if j = 0 then 1 else 0 := fun _ => rfl
    have z1 : ∀ j, goL n W 0 j = 0 := fun _ => rfl
    unfold wsum
    rw [sumTo_one (k := 0) (by omega) (fun i hi ne => by rw [z0, if_neg ne]; grind), sumTo_one (f := fun i => goL n W 0 i * v i) (k := 0) (by omega) (fun i hi ne => by rw [z1]; grind)]
    rw [z0, z1, if_pos rfl]
    show (1 : Rat) * u 0 + 0 * v 0 + 0 = u 0
    grind
  | m + 1 => by
    have ih := wsum_run h m
    have s := wsum_step h (goR n W m) (goL n W m)
    rw [gone_succ, lsum_push]
    have e1 : goR n W (m + 1) = nR W (goR n W m) (goL n W m) := rfl
    have e2 : goL n W (m + 1) = nL n W (goR n W m) (goL n W m) := rfl
    rw [e1, e2]
    grind
theorem sumTo_le {f g : Nat → Rat} : ∀ {n : Nat}, (∀ i, i < n → f i ≤ g i) → sumTo f n ≤ sumTo g n
  | 0, _ => Rat.le_refl
  | n + 1, h => by
    rw [sumTo_succ, sumTo_succ]
    have a := sumTo_le (n := n) fun i hi => h i (by omega)
    have b := h n (by omega)
    grind
theorem wsum_range {n : Nat} {W u v : Nat → Rat} (h : Harm n W u v) {r l : Nat → Rat} (hr : ∀ j, j ≤ n → 0 ≤ r j) (hl : ∀ j, j ≤ n → 0 ≤ l j) :
    0 ≤ wsum n u v r l ∧ wsum n u v r l ≤ sumTo r (n + 1) + sumTo l (n + 1) := by
  unfold wsum
  constructor
  · have a : sumTo (fun _ => 0) (n + 1) ≤ sumTo (fun i => r i * u i) (n + 1) := sumTo_le fun i hi => Rat.mul_nonneg (hr i (by omega)) (h.ru i (by omega)).1
    have b : sumTo (fun _ => 0) (n + 1) ≤ sumTo (fun i => l i * v i) (n + 1) := sumTo_le fun i hi => Rat.mul_nonneg (hl i (by omega)) (h.rv i (by omega)).1
    rw [sumTo_nought] at a b
    grind
  · have one : ∀ a b : Rat, 0 ≤ a → In01 b → a * b ≤ a := fun a b ha hb => by
      have := Rat.mul_le_mul_of_nonneg_left hb.2 ha
      grind
    have a : sumTo (fun i => r i * u i) (n + 1) ≤ sumTo r (n + 1) := sumTo_le fun i hi => one _ _ (hr i (by omega)) (h.ru i (by omega))
    have b : sumTo (fun i => l i * v i) (n + 1) ≤ sumTo l (n + 1) := sumTo_le fun i hi => one _ _ (hl i (by omega)) (h.rv i (by omega))
    grind
/-- the bars of the walls ahead of j -/
def bar (W : Nat → Rat) (j : Nat) : Rat := 1 + sumTo (fun i => W i / (1 - W i)) j
theorem ratio_nn {w : Rat} (h : In01 w) (h1 : w ≠ 1) : 0 ≤ w / (1 - w) := by
  have h2 := h.2
  have p : 0 < 1 - w := by grind
  have q : w / (1 - w) * (1 - w) = w := Rat.div_mul_cancel (by grind)
  refine Rat.le_of_mul_le_mul_right (c := 1 - w) ?_ p
  have := h.1
  grind
theorem bar_ge {n : Nat} {W : Nat → Rat} (h : ∀ k, k < n → In01 (W k)) (h1 : ∀ k, k < n → W k ≠ 1) : ∀ j, j ≤ n → 1 ≤ bar W j
  | 0, _ => by
    unfold bar
    rw [sumTo_zero]
    grind
  | j + 1, hj => by
    have ih := bar_ge h h1 j (by omega)
    have a := ratio_nn (h j (by omega)) (h1 j (by omega))
    unfold bar at ih ⊢
    rw [sumTo_succ]
    grind
theorem bar_mono {n : Nat} {W : Nat → Rat} (h : ∀ k, k < n → In01 (W k)) (h1 : ∀ k, k < n → W k ≠ 1) : ∀ d j, j + d ≤ n → bar W j ≤ bar W (j + d)
  | 0, _, _ => Rat.le_refl
  | d + 1, j, hj => by
    have ih := bar_mono h h1 d j (by omega)
    have a := ratio_nn (h (j + d) (by omega)) (h1 (j + d) (by omega))
    have e : bar W (j + (d + 1)) = bar W (j + d) + W (j + d) / (1 - W (j + d)) := by
      unfold bar
      rw [← Nat.add_assoc, sumTo_succ]
      grind
    rw [e]
    grind
/-- no wall returns all -/
theorem harm_bars {n : Nat} {W : Nat → Rat} (h : ∀ k, k < n → In01 (W k)) (h1 : ∀ k, k < n → W k ≠ 1) : Harm n W (fun j => bar W j / bar W n) (fun j => (bar W j - 1) / bar W n) := by
  have bn := bar_ge h h1 n (Nat.le_refl _)
  have p : 0 < bar W n := by grind
  have nz : bar W n ≠ 0 := by grind
  have step : ∀ j, j < n → ∃ x, bar W (j + 1) = bar W j + x ∧ x * (1 - W j) = W j := fun j hj => by
    refine ⟨W j / (1 - W j), ?_, ?_⟩
    · unfold bar
      rw [sumTo_succ]
      grind
    · exact Rat.div_mul_cancel (by have := h1 j hj; grind)
  have le1 : ∀ j, j ≤ n → bar W j ≤ bar W n := fun j hj => by
    have := bar_mono h h1 (n - j) j (by omega)
    rwa [Nat.add_sub_cancel' hj] at this
  have dv : ∀ a : Rat, 0 ≤ a → a ≤ bar W n → In01 (a / bar W n) := fun a a0 a1 => by
    have q : a / bar W n * bar W n = a := Rat.div_mul_cancel nz
    generalize a / bar W n = x at q ⊢
    refine ⟨?_, ?_⟩
    · refine Rat.le_of_mul_le_mul_right (c := bar W n) ?_ p
      grind
    · refine Rat.le_of_mul_le_mul_right (c := bar W n) ?_ p
      grind
  refine ⟨fun j hj => ?_, fun j hj => ?_, fun j hj => ?_, fun j hj => ?_, ?_, ?_⟩
  · obtain ⟨x, e1, e2⟩ := step j hj
    show bar W j / bar W n = (1 - W j) * (bar W (j + 1) / bar W n) + W j * ((bar W j - 1) / bar W n)
    rw [e1, Rat.div_def, Rat.div_def, Rat.div_def]
    grind
  · obtain ⟨x, e1, e2⟩ := step j hj
    show (bar W (j + 1) - 1) / bar W n = W j * (bar W (j + 1) / bar W n) + (1 - W j) * ((bar W j - 1) / bar W n)
    rw [e1, Rat.div_def, Rat.div_def, Rat.div_def]
    grind
  · have a := bar_ge h h1 j hj
    exact dv _ (by grind) (le1 j hj)
  · have a := bar_ge h h1 j hj
    have b := le1 j hj
    exact dv _ (by grind) (by grind)
  · show bar W n / bar W n = 1
    have q : bar W n / bar W n * bar W n = bar W n := Rat.div_mul_cancel nz
    grind
  · show (bar W 0 - 1) / bar W n = 0
    have e : bar W 0 = 1 := by
      unfold bar
      rw [sumTo_zero]
      grind
    rw [e, Rat.div_def]
    grind
/-- a wall that returns all -/
theorem harm_wall {n k : Nat} {W : Nat → Rat} (hk : k < n) (h1 : W k = 1) : Harm n W (fun j => if j ≤ k then 0 else 1) (fun j => if j ≤ k then 0 else 1) := by
  refine ⟨fun j hj => ?_, fun j hj => ?_, fun j hj => ?_, fun j hj => ?_, ?_, ?_⟩
  · show (if j ≤ k then (0 : Rat) else 1) = (1 - W j) * (if j + 1 ≤ k then 0 else 1) + W j * (if j ≤ k then 0 else 1)
    by_cases a : j = k
    · subst a
      rw [if_pos (Nat.le_refl _), if_neg (by omega), h1]
      grind
    · by_cases b : j ≤ k
      · rw [if_pos b, if_pos (by omega)]
        grind
      · rw [if_neg b, if_neg (by omega)]
        grind
  · show (if j + 1 ≤ k then (0 : Rat) else 1) = W j * (if j + 1 ≤ k then 0 else 1) + (1 - W j) * (if j ≤ k then 0 else 1)
    by_cases a : j = k
    · subst a
      rw [if_pos (Nat.le_refl _), if_neg (by omega), h1]
      grind
    · by_cases b : j ≤ k
      · rw [if_pos b, if_pos (by omega)]
        grind
      · rw [if_neg b, if_neg (by omega)]
        grind
  · show In01 (if j ≤ k then 0 else 1)
    split
    · exact in01_zero
    · exact in01_one
  · show In01 (if j ≤ k then 0 else 1)
    split
    · exact in01_zero
    · exact in01_one
  · exact if_neg (by omega)
  · exact if_pos (Nat.zero_le _)
/-- what is heard, lost in all -/
def barL (ws : List Rat) : Rat := 1 + lsum (ws.map fun w => w / (1 - w))
def dueG (ws : List Rat) : Rat := if 1 ∈ ws then 0 else 1 / barL ws
theorem at0_map (f : Rat → Rat) : ∀ (ws : List Rat), sumTo (fun i => f (at0 ws i)) ws.length = lsum (ws.map f)
  | [] => rfl
  | w :: ws => by
    rw [List.length_cons, sumTo_shift]
    have e := at0_map f ws
    show f (at0 (w :: ws) 0) + sumTo (fun i => f (at0 (w :: ws) (i + 1))) ws.length = f w + lsum (ws.map f)
    rw [← e]
    rfl
theorem harm_of {D : Nat} {ws : List Rat} (g : ∀ q ∈ ws, In01 q) : ∃ u v, Harm ws.length (at0 ws) u v ∧ u 0 = dueG ws := by
  have gi : ∀ k, k < ws.length → at0 ws k ∈ ws := fun k hk => List.mem_of_getElem? (at0_get hk)
  by_cases h : 1 ∈ ws
  · obtain ⟨k, hk, e⟩ := List.mem_iff_getElem.mp h
    have e2 : at0 ws k = 1 := by
      have := at0_get hk
      rw [List.getElem?_eq_getElem hk, e] at this
      exact (Option.some.inj this).symm
    refine ⟨_, _, harm_wall hk e2, ?_⟩
    unfold dueG
    rw [if_pos h]
    rfl
  · refine ⟨_, _, harm_bars (fun k hk => g _ (gi k hk)) (fun k hk z => h (z ▸ gi k hk)), ?_⟩
    unfold dueG
    rw [if_neg h]
    have e : bar (at0 ws) 0 = 1 := by
      unfold bar
      rw [sumTo_zero]
      grind
    show bar (at0 ws) 0 / bar (at0 ws) ws.length = 1 / barL ws
    rw [e]
    unfold bar barL
    rw [at0_map (fun w => w / (1 - w)) ws]
/-- the promise of the last lines of the law -/
theorem in_all_bounds {D : Nat} {ws : List Rat} (g : GoodL D ws) (m : Nat) :
    let S := sumTo (goR ws.length (at0 ws) m) (ws.length + 1) + sumTo (goL ws.length (at0 ws) m) (ws.length + 1)
    (0 ≤ (1 - dueG ws) - lsum (ears ws.length (at0 ws) m) ∧ 0 ≤ S - ((1 - dueG ws) - lsum (ears ws.length (at0 ws) m))) ∧ 0 ≤ dueG ws - lsum (gone ws.length (at0 ws) m) ∧ 0 ≤ S - (dueG ws - lsum (gone ws.length (at0 ws) m)) := by
  obtain ⟨u, v, H, e0⟩ := harm_of (D := D) (ws := ws) fun q hq => (g.all q hq).1
  have a := wsum_run H m
  have st := state_good g.good m
  have b := wsum_range H (r := goR ws.length (at0 ws) m) (l := goL ws.length (at0 ws) m) (fun j hj => (st j hj).1.1.1) (fun j hj => (st j hj).2.1.1)
  have c := all_one ws.length (at0 ws) m
  rw [e0] at a
  intro S
  have eS : S = sumTo (goR ws.length (at0 ws) m) (ws.length + 1) + sumTo (goL ws.length (at0 ws) m) (ws.length + 1) := rfl
  obtain ⟨b1, b2⟩ := b
  refine ⟨⟨?_, ?_⟩, ?_, ?_⟩ <;> grind
theorem lsum_perm {l r : List Rat} (h : l.Perm r) : lsum l = lsum r := by
  induction h with
  | nil => rfl
  | cons x _ ih => show x + _ = x + _; rw [ih]
  | swap x y l => show y + (x + lsum l) = x + (y + lsum l); grind
  | trans _ _ a b => exact a.trans b
theorem dueG_perm {l r : List Rat} (h : l.Perm r) : dueG l = dueG r := by
  unfold dueG barL
  rw [lsum_perm (h.map _)]
  by_cases a : 1 ∈ l
  · rw [if_pos a, if_pos (h.mem_iff.mp a)]
  · rw [if_neg a, if_neg (fun z => a (h.mem_iff.mpr z))]
end Ef
namespace Ef
/-! ### sizes by bits -/
def Bd (n : Nat) (q : Rat) : Prop := q.num.natAbs < 2 ^ n ∧ q.den < 2 ^ n
theorem Bd.mono {a b : Nat} {q : Rat} (h : Bd a q) (l : a ≤ b) : Bd b q := ⟨Nat.lt_of_lt_of_le h.1 (Nat.pow_le_pow_right (by decide) l), Nat.lt_of_lt_of_le h.2 (Nat.pow_le_pow_right (by decide) l)⟩
theorem Bd.sm {n : Nat} {q : Rat} (h : Bd n q) (l : n ≤ 4500) : Sm q := h.mono l
theorem bd_mk {n : Nat} {t : Int} {b : Nat} (hb : b ≠ 0) (h1 : t.natAbs < 2 ^ n) (h2 : b < 2 ^ n) : Bd n (mkRat t b) :=
  ⟨Nat.lt_of_le_of_lt (mk_num_le hb) h1, Nat.lt_of_le_of_lt (mk_den_le hb) h2⟩
theorem mul_lt_pow {x y a b : Nat} (hx : x < 2 ^ a) (hy : y < 2 ^ b) : x * y < 2 ^ (a + b) := by
  rw [Nat.pow_add]
  exact Nat.mul_lt_mul'' hx hy
theorem Bd.add {a b : Nat} {p q : Rat} (hp : Bd a p) (hq : Bd b q) : Bd (a + b + 1) (p + q) := by
  rw [← sum_mk]
  have d : p.den * q.den < 2 ^ (a + b) := mul_lt_pow hp.2 hq.2
  have e : (2 : Nat) ^ (a + b + 1) = 2 ^ (a + b) * 2 := Nat.pow_succ ..
  refine bd_mk (Nat.mul_ne_zero p.den_nz q.den_nz) ?_ (by omega)
  have x : (p.num * (q.den : Int)).natAbs < 2 ^ (a + b) := by
    rw [Int.natAbs_mul, Int.natAbs_natCast]
    exact mul_lt_pow hp.1 hq.2
  have y : (q.num * (p.den : Int)).natAbs < 2 ^ (a + b) := by
    rw [Int.natAbs_mul, Int.natAbs_natCast, Nat.add_comm]
    exact mul_lt_pow hq.1 hp.2
  omega
theorem Bd.neg {a : Nat} {p : Rat} (hp : Bd a p) : Bd a (-p) := ⟨by rw [Rat.neg_num, Int.natAbs_neg]; exact hp.1, hp.2⟩
theorem Bd.sub {a b : Nat} {p q : Rat} (hp : Bd a p) (hq : Bd b q) : Bd (a + b + 1) (p - q) := by
  rw [Rat.sub_eq_add_neg]
  exact hp.add hq.neg
theorem Bd.mul {a b : Nat} {p q : Rat} (hp : Bd a p) (hq : Bd b q) : Bd (a + b) (p * q) := by
  rw [← mul_mk]
  refine bd_mk (Nat.mul_ne_zero p.den_nz q.den_nz) ?_ (mul_lt_pow hp.2 hq.2)
  rw [Int.natAbs_mul]
  exact mul_lt_pow hp.1 hq.1
theorem Bd.div {a b : Nat} {p q : Rat} (hp : Bd a p) (hq : Bd b q) (h0 : q ≠ 0) : Bd (a + b) (p / q) := by
  rw [← over_mk]
  have z : q.num ≠ 0 := fun e => h0 (Rat.num_eq_zero.mp e)
  have g : ∀ (t b' : Int), b' ≠ 0 → ∃ (t' : Int) (n : Nat), Rat.divInt t b' = mkRat t' n ∧ t'.natAbs = t.natAbs ∧ n = b'.natAbs := by
    intro t b' hb
    rcases Int.lt_or_gt_of_ne hb with h | h
    · refine ⟨0 - t, (0 - b').toNat, ?_, by omega, by omega⟩
      rw [divInt_neg h, divInt_pos (by omega)]
    · exact ⟨t, b'.toNat, divInt_pos h, rfl, by omega⟩
  have nz : (p.den : Int) * q.num ≠ 0 := fun e => (Int.mul_eq_zero.mp e).elim (Int.ne_of_gt (den_posI p)) z
  obtain ⟨t, n, e, e1, e2⟩ := g (p.num * q.den) (p.den * q.num) nz
  rw [e]
  refine bd_mk (by omega) ?_ ?_
  · rw [e1, Int.natAbs_mul, Int.natAbs_natCast]
    exact mul_lt_pow hp.1 hq.2
  · rw [e2, Int.natAbs_mul, Int.natAbs_natCast]
    exact mul_lt_pow hp.2 hq.1
theorem bd_one : Bd 1 1 := ⟨by decide, by decide⟩
theorem bd_zero : Bd 1 0 := ⟨by decide, by decide⟩
theorem bd_of {D n : Nat} {q : Rat} (hD : 0 < D) (hl : D < 2 ^ n) (h : IsD D q) (h0 : -1 ≤ q) (h1 : q ≤ 1) : Bd n q :=
  ⟨Nat.lt_of_le_of_lt (h.num hD h0 h1) hl, Nat.lt_of_le_of_lt (h.den hD) hl⟩
/-- a part against the rest -/
theorem bd_ratio {n : Nat} {w : Rat} (h : Bd n w) (h1 : w ≠ 1) : Bd (n + (1 + n + 1)) (w / (1 - w)) := h.div (bd_one.sub h) (by grind)
theorem barL_push (ws : List Rat) (w : Rat) : barL (ws ++ [w]) = barL ws + w / (1 - w) := by
  unfold barL
  rw [List.map_append]
  show 1 + lsum (ws.map (fun w => w / (1 - w)) ++ [w / (1 - w)]) = _
  rw [lsum_push]
  grind
theorem bd_bar {n : Nat} : ∀ (k : Nat) (ws : List Rat), (∀ q ∈ ws, Bd n q ∧ q ≠ 1) → k ≤ ws.length → Bd (1 + k * (2 * n + 3)) (barL (ws.take k))
  | 0, ws, _, _ => by
    show Bd (1 + 0 * (2 * n + 3)) (1 + 0)
    have e : (1 : Rat) + 0 = 1 := by grind
    rw [e, Nat.zero_mul]
    exact bd_one
  | k + 1, ws, h, hk => by
    have ih := bd_bar k ws h (by omega)
    have hm := h ws[k] (List.getElem_mem (by omega))
    rw [List.take_succ, List.getElem?_eq_getElem (by omega)]
    show Bd _ (barL (ws.take k ++ [ws[k]]))
    rw [barL_push]
    refine (ih.add (bd_ratio hm.1 hm.2)).mono ?_
    rw [Nat.add_mul]
    omega
theorem ratio_mk {w : Rat} (h : In01 w) (h1 : w ≠ 1) : ∃ b : Nat, (w.den : Int) - w.num = (b : Int) ∧ b ≠ 0 ∧ b ≤ w.den ∧ mkRat w.num b = w / (1 - w) := by
  have u := unit_in h
  have ne : (w.den : Int) ≠ w.num := fun e => h1 (by
    have d1 : w.num.natAbs.Coprime w.den := w.reduced
    have d2 : w.num.natAbs = w.den := by omega
    rw [d2] at d1
    have d3 : w.den = 1 := (Nat.coprime_self _).mp d1
    have e3 : w.num = 1 := by omega
    exact Rat.ext e3 d3)
  refine ⟨(w.den - w.num).toNat, by omega, by omega, by omega, ?_⟩
  have nz : (1 - w) ≠ 0 := by grind
  have hd := nz_cast (den_pos w)
  have e2 : w * (w.den : Rat) = w.num := by
    have q : w = (w.num : Rat) / (w.den : Rat) := by
      rw [← Rat.mkRat_eq_div, Rat.mkRat_self]
    have r : (w.num : Rat) / (w.den : Rat) * (w.den : Rat) = w.num := Rat.div_mul_cancel hd
    rwa [← q] at r
  rw [Rat.mkRat_eq_div]
  have e4 : ((((w.den : Int) - w.num).toNat : Nat) : Rat) = (w.den : Rat) - (w.num : Rat) := by
    have a : ((((w.den : Int) - w.num).toNat : Nat) : Rat) = (((((w.den : Int) - w.num).toNat : Nat) : Int) : Rat) := rfl
    rw [a, show ((((w.den : Int) - w.num).toNat : Nat) : Int) = (w.den : Int) - w.num by omega, Rat.intCast_sub]
    rfl
  rw [e4]
  have k1 : (w.den : Rat) - (w.num : Rat) = (w.den : Rat) * (1 - w) := by rw [← e2]; grind
  have nz2 : (w.den : Rat) - (w.num : Rat) ≠ 0 := by
    rw [k1]
    intro z
    exact (Rat.mul_eq_zero.mp z).elim hd nz
  have a : (w.num : Rat) / ((w.den : Rat) - (w.num : Rat)) * ((w.den : Rat) - (w.num : Rat)) = w.num := Rat.div_mul_cancel nz2
  have b : w / (1 - w) * (1 - w) = w := Rat.div_mul_cancel nz
  generalize (w.num : Rat) / ((w.den : Rat) - (w.num : Rat)) = x at a ⊢
  generalize w / (1 - w) = y at b ⊢
  have c : (x - y) * ((w.den : Rat) - (w.num : Rat)) = 0 := by
    rw [k1] at a ⊢
    grind
  rcases Rat.mul_eq_zero.mp c with z | z
  · grind
  · exact absurd z nz2
/-- turned over -/
theorem inv_mk {q : Rat} (h : 0 < q) : ∃ b : Nat, q.num = (b : Int) ∧ b ≠ 0 ∧ mkRat (q.den : Int) b = 1 / q := by
  have p : 0 < q.num := by
    have := (Rat.lt_iff 0 q).mp h
    simpa using this
  refine ⟨q.num.toNat, by omega, by omega, ?_⟩
  rw [← divInt_pos p]
  have e := over_mk 1 q
  have e1 : (1 : Rat).num = 1 := rfl
  have e2 : (1 : Rat).den = 1 := rfl
  rw [e1, e2] at e
  rw [← e]
  simp
theorem no_one {ws : List Rat} {i : Nat} (hn : ∀ j, j < i → ws[j]? ≠ some 1) : ∀ q ∈ ws.take i, q ≠ 1 := by
  intro q hq e
  obtain ⟨j, hj, ej⟩ := List.mem_iff_getElem.mp hq
  have hj2 : j < i := by
    rw [List.length_take] at hj
    omega
  refine hn j hj2 ?_
  have g := List.getElem?_eq_getElem hj
  rw [List.getElem?_take, if_pos hj2, ej, e] at g
  exact g
theorem bd_barT {ws : List Rat} (h : ∀ q ∈ ws, Bd 41 q) (h8 : ws.length ≤ 8) {i : Nat} (hi : i ≤ ws.length) (hn : ∀ j, j < i → ws[j]? ≠ some 1) : Bd 700 (barL (ws.take i)) := by
  have a := bd_bar (n := 41) i (ws.take i) (fun q hq => ⟨h q (List.mem_of_mem_take hq), no_one hn q hq⟩) (by rw [List.length_take]; omega)
  rw [List.take_take, Nat.min_self] at a
  refine a.mono ?_
  omega
theorem barL_ge : ∀ {ws : List Rat}, (∀ q ∈ ws, In01 q ∧ q ≠ 1) → 1 ≤ barL ws
  | [], _ => by
    show (1 : Rat) ≤ 1 + 0
    grind
  | w :: ws, h => by
    have ih := barL_ge (ws := ws) fun q hq => h q (List.mem_cons_of_mem _ hq)
    have a := ratio_nn (h w List.mem_cons_self).1 (h w List.mem_cons_self).2
    have e : barL (w :: ws) = barL ws + w / (1 - w) := by
      unfold barL
      show 1 + (w / (1 - w) + lsum (ws.map fun w => w / (1 - w))) = _
      grind
    rw [e]
    grind
theorem dueG_yes {ws : List Rat} (h : 1 ∈ ws) : dueG ws = 0 := if_pos h
theorem dueG_no {ws : List Rat} (hn : ∀ j, j < ws.length → ws[j]? ≠ some 1) : dueG ws = 1 / barL ws := by
  have h : 1 ∉ ws := fun z => by
    have := no_one hn 1
    rw [List.take_length] at this
    exact this z rfl
  exact if_neg h
theorem dueG_in {ws : List Rat} (h : ∀ q ∈ ws, In01 q) : In01 (dueG ws) := by
  obtain ⟨u, v, H, e⟩ := harm_of (D := 1) h
  rw [← e]
  exact H.ru 0 (Nat.zero_le _)
theorem bd_due {ws : List Rat} (h : ∀ q ∈ ws, In01 q ∧ Bd 41 q) (h8 : ws.length ≤ 8) : Bd 701 (dueG ws) := by
  by_cases c : 1 ∈ ws
  · rw [dueG_yes c]
    exact bd_zero.mono (by omega)
  · have hn : ∀ j, j < ws.length → ws[j]? ≠ some 1 := fun j hj e => c (List.mem_of_getElem? e)
    rw [dueG_no hn]
    have b := bd_barT (fun q hq => (h q hq).2) h8 (Nat.le_refl _) hn
    rw [List.take_length] at b
    have g := barL_ge (ws := ws) fun q hq => ⟨(h q hq).1, fun e => c (e ▸ hq)⟩
    exact (bd_one.div b (by grind)).mono (by omega)
end Ef
namespace Ef
open PySem PySem.Spec PyProof.Rows L2
/-! ### promises -/
/-- what is heard, lost in all -/
def spInAll (K : PySem.W.Frag) : Sp := fun vs H Q _ => ∃ (f l : Addr) (ws : List Rat), vs = [.ref f] ∧ FieldAt K H f l ws ∧ ws.length ≤ 8 ∧ (∀ q ∈ ws, In01 q ∧ Bd 41 q) ∧
  ∀ (p : Addr) (u v : V) (H' : Hp), Same H H' → H' p = some (.tup [u, v]) → RatAt K H' u (1 - dueG ws) → RatAt K H' v (dueG ws) → Q (.ref p) H'
def spDue (K : PySem.W.Frag) : Sp := fun vs H Q _ => ∃ (l : Addr) (ws : List Rat), vs = [.ref l] ∧ RL K H l ws ∧ ws.length ≤ 8 ∧ (∀ q ∈ ws, In01 q ∧ Bd 41 q) ∧
  ∀ (p : Addr) (u v : V) (H' : Hp), Same H H' → H' p = some (.tup [u, v]) → RatAt K H' u (1 - dueG ws) → RatAt K H' v (dueG ws) → Q (.ref p) H'
def spTotal (K : PySem.W.Frag) : Sp := fun vs H Q _ => ∃ (l : Addr) (qs : List Rat), vs = [.ref l] ∧ RL K H l qs ∧ (∀ i, i ≤ qs.length → Sm (lsum (qs.take i))) ∧ (∀ q ∈ qs, Sm q) ∧
  ∀ (v : V) (H' : Hp), Same H H' → RatAt K H' v (lsum qs) → Q v H'
theorem OneL.mid {D : Nat} {s l t : List Rat} (h : OneL D (s ++ (l ++ t))) : OneL D l := by
  have n1 := lsum_nonneg (l := s) fun p hp => h.nn p (List.mem_append_left _ hp)
  have n2 := lsum_nonneg (l := t) fun p hp => h.nn p (List.mem_append_right _ (List.mem_append_right _ hp))
  have e := h.le
  rw [lsum_app, lsum_app] at e
  exact ⟨h.dp, h.dl, fun q hq => h.nn q (List.mem_append_right _ (List.mem_append_left _ hq)), fun q hq => h.d q (List.mem_append_right _ (List.mem_append_left _ hq)), by grind⟩
theorem OneL.upto {D : Nat} {l : List Rat} (h : OneL D l) (i : Nat) : Sm (lsum (l.take i)) := by
  rw [← List.take_append_drop i l] at h
  exact h.pre
theorem OneL.bd {D n : Nat} {l : List Rat} (h : OneL D l) (hn : D < 2 ^ n) : Bd n (lsum l) := by
  have a := lsum_nonneg h.nn
  have b := h.le
  exact bd_of h.dp hn (lsum_isD h.d) (by grind) b
theorem Rats.erase {K : PySem.W.Frag} {H : Hp} {xs : List V} {qs : List Rat} (h : Rats K H xs qs) (k : Nat) : Rats K H (xs.eraseIdx k) (qs.eraseIdx k) := by
  refine ⟨by rw [List.length_eraseIdx, List.length_eraseIdx, h.1], fun i v q a b => ?_⟩
  rw [List.getElem?_eraseIdx] at a b
  by_cases c : i < k
  · rw [if_pos c] at a b
    exact h.2 i v q a b
  · rw [if_neg c] at a b
    exact h.2 (i + 1) v q a b
theorem perm_pop {l r ws : List Rat} {k : Nat} {q : Rat} (h : (r ++ l).Perm ws) (e : l[k]? = some q) : ((r ++ [q]) ++ l.eraseIdx k).Perm ws := by
  obtain ⟨hk, ek⟩ := List.getElem?_eq_some_iff.mp e
  refine List.Perm.trans ?_ h
  rw [List.append_assoc]
  refine List.Perm.append_left r ?_
  have e2 : l = l.take k ++ q :: l.drop (k + 1) := by
    rw [← ek, ← List.drop_eq_getElem_cons hk, List.take_append_drop]
  have e3 : l.eraseIdx k = l.take k ++ l.drop (k + 1) := List.eraseIdx_eq_take_drop_succ ..
  rw [e3]
  have e4 : (q :: (l.take k ++ l.drop (k + 1))).Perm l := by
    conv => rhs; rw [e2]
    exact List.perm_middle.symm
  exact e4
def dPair (p q : Rat) : PyData := .tuple [dRat p, dRat q]
theorem pair_dp {K : PySem.W.Frag} {H : Hp} {t : Addr} {u v : V} {p q : Rat} (e : H t = some (.tup [u, v])) (hu : RatAt K H u p) (hv : RatAt K H v q) : Dp K H (.ref t) (dPair p q) := .tup (SqT.of e) (.cons hu.dp (.cons hv.dp .nil))
theorem eqv_pair (p q : Rat) : PyData.eqv (dPair p q) (dPair p q) = true := by
  show (PyData.eqv (dRat p) (dRat p) && (PyData.eqv (dRat q) (dRat q) && true)) = true
  rw [eqv_rat, eqv_rat, decide_eq_true rfl, decide_eq_true rfl]
  rfl
theorem sh_pair (p q : Rat) : SeqAt.shaped (dPair p q) = true := by rfl
theorem great_pow {b m : Nat} {g : Bool} (hb : b ≤ 10 ^ 12) (h1 : g = false → b = 1) (h2 : g = true → m ≤ 2) (h3 : m ≤ 40) : (60 * b) ^ m < 2 ^ 300 := by
  cases g with
  | true =>
    have a : (60 * b) ^ m ≤ (60 * 10 ^ 12 + 1) ^ m := Nat.pow_le_pow_left (by omega) m
    have c : (60 * 10 ^ 12 + 1) ^ m ≤ (60 * 10 ^ 12 + 1) ^ 2 := Nat.pow_le_pow_right (by decide) (h2 rfl)
    have d : (60 * 10 ^ 12 + 1) ^ 2 < 2 ^ 300 := by decide
    exact Nat.lt_of_le_of_lt (Nat.le_trans a c) d
  | false =>
    rw [h1 rfl, Nat.mul_one]
    have a : 60 ^ m ≤ 60 ^ 40 := Nat.pow_le_pow_right (by decide) h3
    have d : 60 ^ 40 < 2 ^ 300 := by decide
    exact Nat.lt_of_le_of_lt a d
theorem seq_at {z : Int} {i n : Nat} (e : z = (i : Int)) (h : i < n) : seqIndex? z n = some i := by
  subst e
  unfold seqIndex?
  have h0 : ¬ ((i : Int) < 0) := by omega
  have h1 : (decide (0 ≤ (i : Int)) && decide ((i : Int) < (n : Int))) = true := by
    rw [decide_eq_true (by omega), decide_eq_true (by omega)]
    rfl
  simp only [if_neg h0, h1, if_true, Int.toNat_natCast]
end Ef
namespace Ef
open PySem PySem.Spec PyProof.Rows L2 SX TL
/-! ### texts -/
/-- a loop over the signs of a text -/
theorem for_str {x : Str} {g : TG} {tb : TS} {D : Ends} {σ : L2.St} {H : Hp} (Pv : Nat → L2.St → Hp → Prop) (h0 : Pv 0 σ H)
    (hs : ∀ i c σ H, x.cps[i]? = some c → Pv i σ H → g (.str ⟨#[c]⟩) σ H fun σ2 H2 => tb { D with nx := Pv (i + 1), ct := Pv (i + 1), bk := D.nx } σ2 H2) (hd : ∀ σ H, Pv x.cps.size σ H → D.nx σ H) :
    ∃ W : Nat → Nat → L2.St → Hp → Prop, (∃ m, W 0 m σ H) ∧ ∀ i m σ H, W i m σ H → ((Its x).stop i H ∧ D.nx σ H) ∨ ((Its x).go i H ∧ ∃ N : L2.St → Hp → Prop, (∀ σ' H', N σ' H' → ∃ m', m' < m ∧ W (i + 1) m' σ' H') ∧
      ∀ y H', (Its x).yld i H y H' → g y σ H' fun σ2 H2 => tb { D with nx := N, ct := N, bk := D.nx } σ2 H2) := by
  refine ⟨fun i m σ H => m + i = x.cps.size ∧ Pv i σ H, ⟨x.cps.size, rfl, h0⟩, ?_⟩
  rintro i m σ H ⟨em, p⟩
  by_cases hi : i < x.cps.size
  · refine .inr ⟨hi, Pv (i + 1), fun σ' H' q => ⟨m - 1, by omega, by omega, q⟩, fun y H' hy => ?_⟩
    obtain ⟨rfl, c, hc, rfl⟩ := hy
    exact hs i c σ _ hc p
  · have e : i = x.cps.size := by omega
    subst e
    exact .inl ⟨Nat.le_refl _, hd σ H p⟩
theorem sE : (Str.ofString "") = S [] := by decide +kernel
theorem sSp : (Str.ofString " ") = S [32] := by decide +kernel
theorem sSl : (Str.ofString "/") = S [47] := by decide +kernel
theorem s0 : (Str.ofString "0") = S [48] := by decide +kernel
theorem sFig : (Str.ofString "0123456789") = S [48, 49, 50, 51, 52, 53, 54, 55, 56, 57] := by decide +kernel
theorem fig_mem (c : Nat) : c ∈ (S [48, 49, 50, 51, 52, 53, 54, 55, 56, 57]).cps.toList ↔ 48 ≤ c ∧ c ≤ 57 := by
  show c ∈ [48, 49, 50, 51, 52, 53, 54, 55, 56, 57] ↔ _
  simp only [List.mem_cons, List.not_mem_nil, or_false]
  omega
/-- the number that a word writes -/
def numOk (w : List Nat) : Prop := w ≠ [] ∧ w.length ≤ 12 ∧ (w.head? = some 48 → w = [48]) ∧ ∀ c ∈ w, 48 ≤ c ∧ c ≤ 57
def spNumber : Sp := fun vs H Q _ => ∃ w : List Nat, vs = [.str (S w)] ∧ numOk w ∧ Q (.int ((NumText.digitsVal w : Nat) : Int)) H
theorem numL_head {n : Nat} : (numL n).head? = some 48 → numL n = [48] := by
  induction n using Nat.strongRecOn with
  | ind n ih =>
    intro h
    by_cases hn : n < 10
    · rw [numL_lt hn] at h ⊢
      have e := Option.some.inj h
      rw [e]
    · have h10 : 10 ≤ n := by omega
      rw [numL_step h10] at h ⊢
      have ne := numL_ne (n / 10)
      have h2 : (numL (n / 10)).head? = some 48 := by
        cases e : numL (n / 10) with
        | nil => exact absurd e ne
        | cons a b =>
          rw [e] at h
          exact h
      have h3 := ih (n / 10) (by omega) h2
      have h4 : NumText.digitsVal (numL (n / 10)) = n / 10 := numL_val _
      rw [h3] at h4
      have h5 : n / 10 = 0 := by
        rw [← h4]
        rfl
      omega
theorem num_ok {n : Nat} (h : n < 10 ^ 12) : numOk (numL n) := ⟨numL_ne n, numL_len (by decide) h, numL_head, numL_digits n⟩
def wordOf (q : Rat) : List Nat := numL q.num.toNat ++ ([47] ++ numL q.den)
def textOf (ws : List Rat) : List Nat := joinL [32] (ws.map wordOf)
theorem word_free (q : Rat) : 32 ∉ wordOf q := by
  unfold wordOf
  intro h
  rcases List.mem_append.mp h with h | h
  · exact numL_free (.inl (by decide)) h
  · rcases List.mem_append.mp h with h | h
    · exact absurd (List.mem_singleton.mp h) (by decide)
    · exact numL_free (.inl (by decide)) h
theorem joinL_push (S : List Nat) : ∀ {l : List (List Nat)} {p : List Nat}, l ≠ [] → joinL S (l ++ [p]) = joinL S l ++ (S ++ p)
  | [], _, h => absurd rfl h
  | [a], p, _ => rfl
  | a :: b :: r, p, _ => by
    show a ++ (S ++ joinL S ((b :: r) ++ [p])) = a ++ (S ++ joinL S (b :: r)) ++ (S ++ p)
    rw [joinL_push S (l := b :: r) (by simp)]
    simp [List.append_assoc]
theorem word_split (q : Rat) : spl [47] 0 [] (wordOf q) = [numL q.num.toNat, numL q.den] := by
  unfold wordOf
  rw [spl_part1 (numL_free (.inl (by decide))), List.nil_append, spl_last1 (numL_free (.inl (by decide))), List.nil_append]
theorem text_split {ws : List Rat} (h : ws ≠ []) : spl [32] 0 [] (textOf ws) = ws.map wordOf := by
  unfold textOf
  exact TL.spl_join (by simpa using h) fun p hp => by
    obtain ⟨q, _, rfl⟩ := List.mem_map.mp hp
    exact word_free q
theorem joinL_len (S : List Nat) {n : Nat} : ∀ {l : List (List Nat)}, (∀ p ∈ l, p.length ≤ n) → (joinL S l).length ≤ l.length * (n + S.length)
  | [], _ => Nat.zero_le _
  | [a], h => by
    show a.length ≤ _
    have := h a List.mem_cons_self
    rw [List.length_singleton, Nat.one_mul]
    omega
  | a :: b :: r, h => by
    show (a ++ (S ++ joinL S (b :: r))).length ≤ _
    have h1 := h a List.mem_cons_self
    have h2 := joinL_len S (l := b :: r) fun p hp => h p (List.mem_cons_of_mem _ hp)
    rw [List.length_append, List.length_append, List.length_cons, Nat.add_mul]
    omega
/-- a part with figures that a text may have -/
def Wr (q : Rat) : Prop := 0 ≤ q.num ∧ q.num.toNat < 10 ^ 12 ∧ q.den < 10 ^ 12
theorem word_len {q : Rat} (h : Wr q) : (wordOf q).length ≤ 25 := by
  have a := numL_len (k := 12) (by decide) h.2.1
  have b := numL_len (k := 12) (by decide) h.2.2
  unfold wordOf
  rw [List.length_append, List.length_append, List.length_singleton]
  omega
theorem log_small {i : Int} (h0 : 0 ≤ i) (h : i.toNat < 10 ^ 12) : i.natAbs.log2 < 1920 := by
  refine PySem.Flt.log2_lt_of (by decide) ?_
  have e : i.natAbs = i.toNat := by omega
  rw [e]
  exact Nat.lt_of_lt_of_le (Nat.lt_trans h (show 10 ^ 12 < 2 ^ 40 by decide)) (Nat.pow_le_pow_right (by decide) (by decide))
theorem show_num {i : Int} (h0 : 0 ≤ i) : Str.ofString (toString i) = S (numL i.toNat) := by
  obtain ⟨n, rfl⟩ := Int.eq_ofNat_of_zero_le h0
  rw [Int.toNat_natCast]
  exact num_S n
def spShown (K : PySem.W.Frag) : Sp := fun vs H Q _ => ∃ (f l : Addr) (ws : List Rat), vs = [.ref f] ∧ FieldAt K H f l ws ∧ ws.length ≤ 8 ∧ (∀ q ∈ ws, Wr q) ∧ ∀ H', Same H H' → Q (.str (S (textOf ws))) H'
def spPart (K : PySem.W.Frag) : Sp := fun vs H Q _ => ∃ q : Rat, vs = [.str (S (wordOf q))] ∧ Wr q ∧ ∀ p H', Same H H' → RatAt K H' (.ref p) q → Q (.ref p) H'
def spRead (K : PySem.W.Frag) : Sp := fun vs H Q _ => ∃ ws : List Rat, vs = [.str (S (textOf ws))] ∧ 1 ≤ ws.length ∧ ws.length ≤ 8 ∧ (∀ q ∈ ws, Wr q) ∧ Unit1 ws ∧ ∀ (p m : Addr) (H' : Hp), H p = none → Same H H' → FieldAt K H' p m ws → Q (.ref p) H'
/-- the halves of a fraction within a comprehension -/
theorem pe_numK {X : Cx} {K : PySem.W.Frag} (i : Nat) (hK : X.K = K) {x : Str} {p p2 pos : Pos} {j : Nat} (hN : X.N[i]? = some x := by rfl) (hv : Vis X.env.scope x := by first | exact Or.inl rfl | exact Or.inr (Or.inl rfl) | exact Or.inr (Or.inr rfl)) (hd : (x == ("__debug__" : Str)) = false := by decide)
    (hcd : (x == ("__classdict__" : Str)) = false := by decide) : PE X (.Subscript (.Name x p) (.Constant (.int 0) j p2) pos) (tNum K i) := by
  subst hK
  exact pe_num i hN hv hd hcd
theorem pe_denK {X : Cx} {K : PySem.W.Frag} (i : Nat) (hK : X.K = K) {x : Str} {p p2 pos : Pos} {j : Nat} (hN : X.N[i]? = some x := by rfl) (hv : Vis X.env.scope x := by first | exact Or.inl rfl | exact Or.inr (Or.inl rfl) | exact Or.inr (Or.inr rfl)) (hd : (x == ("__debug__" : Str)) = false := by decide)
    (hcd : (x == ("__classdict__" : Str)) = false := by decide) : PE X (.Subscript (.Name x p) (.Constant (.int 1) j p2) pos) (tDen K i) := by
  subst hK
  exact pe_den i hN hv hd hcd
theorem words_sum : ∀ {ws : List Rat}, (∀ q ∈ ws, Wr q) → ((ws.map fun q => S (wordOf q)).map (·.length)).sum ≤ ws.length * 25
  | [], _ => Nat.zero_le _
  | q :: ws, h => by
    have a := word_len (h q List.mem_cons_self)
    have b := words_sum (ws := ws) fun p hp => h p (List.mem_cons_of_mem _ hp)
    show (S (wordOf q)).length + ((ws.map fun q => S (wordOf q)).map (·.length)).sum ≤ (ws.length + 1) * 25
    rw [S_len]
    omega
theorem text_len {ws : List Rat} (h : ∀ q ∈ ws, Wr q) : (textOf ws).length ≤ ws.length * 26 := by
  have z := joinL_len [32] (n := 25) (l := ws.map wordOf) fun p hp => by
    obtain ⟨q, hq, rfl⟩ := List.mem_map.mp hp
    exact word_len (h q hq)
  rw [List.length_map] at z
  exact z
theorem text_push {ws : List Rat} (q : Rat) (h : ws ≠ []) : textOf (ws ++ [q]) = textOf ws ++ ([32] ++ wordOf q) := by
  unfold textOf
  rw [List.map_append]
  exact joinL_push [32] (by simpa using h)
theorem text_one (q : Rat) : textOf [q] = wordOf q := rfl
theorem cat_ok {x y : Str} {a b : Nat} (ha : x.length ≤ a) (hb : y.length ≤ b) (h : a + b ≤ 1000) : x.length + y.length ≤ sizeLine := Nat.le_trans (show _ ≤ 1000 by omega) (by decide)
theorem cat_len {x y : Str} {a b : Nat} (ha : x.length ≤ a) (hb : y.length ≤ b) : (x ++ y).length ≤ a + b := by
  rw [PySem.Str.length_append]
  omega
end Ef
namespace Ef
open PySem PySem.Spec PyProof.Rows L2 SX TL
def topS (i : Nat) : Stmt := PySem.Challenge.pw_echofield_k11_written.main.body.getD i (.Pass ⟨0, 0, 0, 0⟩)
abbrev s_Field_init : Stmt := inClass (topS 5) 0
abbrev s_Field_walls : Stmt := inClass (topS 5) 1
abbrev s_law_low : Stmt := topS 17
abbrev s_law_side : Stmt := topS 22
abbrev s_law_cell_at : Stmt := topS 15
abbrev s_law_sides : Stmt := topS 23
abbrev s_law_whole : Stmt := topS 16
abbrev s_law_parts : Stmt := topS 21
abbrev s_shown : Stmt := topS 10
abbrev s_number_of : Stmt := topS 11
abbrev s_common : Stmt := topS 7
abbrev s_part_of : Stmt := topS 12
abbrev s_read : Stmt := topS 13
abbrev s_law : Stmt := topS 24
section
variable {P : Program} {w : World} {K : PySem.W.Frag} {mg : Str → Option Value} {base : Heap}

theorem sc_Field_init : FnScope ["self", "walls", "top", "bottom"] ["self", "walls"] (defScope s_Field_init) := ⟨rfl, rfl, rfl, by decide +kernel, rfl, by decide +kernel, by decide +kernel⟩
theorem ok_Field_init {f : Addr} {fd : FuncData} (F : FnP K "__init__" "Field.__init__" s_Field_init f fd) (B : Bt mg) (TF : FTx K mg) : FnOk P w K mg base CX0 1 f fd ["self", "walls"] (spInit K) := by
  refine F.ok sc_Field_init (fun vs H Q E h => ?_) (fun cdv A outer s H vs Q E hr h => ?_)
  · obtain ⟨p, l, dx, ws, rfl, _⟩ := h
    rfl
  · obtain ⟨p, l, dx, ws, rfl, hp, hl, h1, h8, hu, k⟩ := h
    refine ⟨_, PSs.nox (pss_cons (ps_if (pt_not (pt_chain op_le op_le pe_int (pe_callB call_len_seq (by rfl) B.len (by decide +kernel) (pa_cons (pv 1) pa_nil)) pe_int)) (pss_one ps_never) pss_nil)
      (pss_cons (ps_for PassesOwn.never rfl (pi_list (pv 1)) (pg_tup (by rfl) (pgs_cons (pg_name (i := 2) sc_Field_init.nd rfl (Or.inl rfl)) (pgs_cons (pg_name (i := 3) sc_Field_init.nd rfl (Or.inl rfl)) pgs_nil))) (pss_one (ps_if (pt_not (pt_chain op_le op_le pe_int (pv 2) (pv 3))) (pss_one ps_never) pss_nil)))
      (pss_one (ps_fld (pv 0) (pe_lc (own := [("top", 2), ("bottom", 3)]) (g := (gTup K 2 (gCons (gName 2) (gCons (gName 3) gNil)))) (tt := tYes) rfl sc_Field_init.nd (pi_list (pv 1)) (blkOk_by (own := [("top", 2), ("bottom", 3)]) (N := ["self", "walls", "top", "bottom"]) (sc := defScope s_Field_init) (by decide +kernel)) (fun _ _ _ _ _ => (pg_tup (by rfl) (pgs_cons (pg_name (i := 2) sc_Field_init.nd rfl (Or.inl rfl)) (pgs_cons (pg_name (i := 3) sc_Field_init.nd rfl (Or.inl rfl)) pgs_nil)))) (fun _ _ _ _ _ => pts_nil) (fun _ _ _ _ _ => (pe_tup (pa_cons (pv 2) (pa_cons (pv 3) pa_nil))))) rfl)))), ?_⟩
    obtain ⟨xs, ex, rx⟩ := id hl
    -- the length
    refine ⟨_, rfl, l, xs, rfl, .inl (SqL.of ex), _, _, rfl, rfl, true, congrArg V.bl (decide_eq_true (by rw [rx.1]; omega)), ifT rfl ⟨_, _, rfl, rfl, true, congrArg V.bl (decide_eq_true (by rw [rx.1]; omega)), ifF rfl ?_⟩⟩
    -- each part
    refine ⟨_, rfl, l, rfl, ⟨xs, SqL.of ex⟩, for_list (K := K) (a := l) (xs := xs) (fun i σ H' => H' = H ∧ ∃ t b : Option V, σ = [some (.ref p), some (.ref l), t, b]) ⟨rfl, none, none, rfl⟩ (fun i σ H' _ ⟨e, _⟩ => by rw [e]; exact SqL.of ex) ?_ ?_⟩
    · rintro i v σ H' hi ⟨rfl, t, b, rfl⟩
      have hil : i < ws.length := by rw [← rx.1]; exact (List.getElem?_eq_some_iff.mp hi).1
      obtain ⟨a, rfl, ha⟩ := rx.2 i v ws[i] hi (List.getElem?_eq_getElem hil)
      obtain ⟨q0, q1⟩ := hu ws[i] (List.getElem_mem hil)
      refine ⟨a, _, rfl, ha, rfl, _, _, rfl, _, _, rfl, ⟨rfl, ?_⟩⟩
      refine ⟨_, rfl, _, _, rfl, rfl, true, congrArg V.bl (decide_eq_true q0), ifT rfl ⟨_, rfl, _, _, rfl, rfl, true, congrArg V.bl (decide_eq_true q1), ifF rfl ?_⟩⟩
      exact ⟨rfl, _, _, rfl⟩
    · rintro σ H' ⟨rfl, t, b, rfl⟩
      -- the parts kept
      refine ⟨_, rfl, l, rfl, ⟨xs, SqL.of ex⟩, fun D hD => ?_⟩
      refine lc_list (K := K) (a := l) (xs := xs) (fun i H2 => Same H' H2 ∧ RL K H2 D (ws.take i)) ⟨same_new hD, by rw [List.take_zero]; exact RL.new hD Rats.nil⟩ (fun i H2 _ ⟨s2, _⟩ => s2.seq (SqL.of ex)) ?_ ?_
      · rintro i v H2 hi ⟨s2, r2⟩
        have hil : i < ws.length := by rw [← rx.1]; exact (List.getElem?_eq_some_iff.mp hi).1
        obtain ⟨a, rfl, ha⟩ := rx.2 i v ws[i] hi (List.getElem?_eq_getElem hil)
        refine ⟨a, _, rfl, (kt_of s2).tup ha, rfl, _, _, rfl, _, _, rfl, rfl, rfl, yesQ (ifT rfl ?_)⟩
        refine ⟨_, rfl, _, rfl, (by show 2 ≤ sizeLine; decide), fun t ht => ?_⟩
        have r3 : RL K (upd H2 t (.tup [.int ws[i].num, .int (ws[i].den : Int)])) D (ws.take i) := r2.same (same_new ht)
        obtain ⟨acc, ea, ra⟩ := r3
        have el : acc.length = i := by rw [ra.1, List.length_take]; omega
        refine ⟨acc, ea, small1000 (by omega), same_but (s2.trans (same_new ht)) hD (fun b hb => upd_ne hb), ?_⟩
        rw [List.take_succ, List.getElem?_eq_getElem hil]
        exact RL.upd ea (ra.push ⟨t, rfl, SqT.of upd_same⟩)
      · rintro H2 ⟨s2, r2⟩
        have npD : p ≠ D := ne_of_none hp hD
        refine ⟨_, rfl, p, _, dx, [], rfl, s2 _ _ hp, TF.cl, TF.nP, (by show 0 < 1000; decide), ?_⟩
        rw [rx.1, List.take_length] at r2
        refine k D _ hD ⟨⟨dx, upd_same⟩, ?_⟩ (fun b o e hb => ?_)
        · obtain ⟨ys, ey, ry⟩ := r2
          refine ⟨ys, by rw [upd_ne npD.symm]; exact ey, ry.kt (Kt.obj (s2 _ _ hp))⟩
        · rw [upd_ne hb]
          exact s2 b o e

theorem sc_Field_walls : FnScope ["self"] ["self"] (defScope s_Field_walls) := ⟨rfl, rfl, rfl, by decide +kernel, rfl, by decide +kernel, by decide +kernel⟩
theorem ok_Field_walls {f : Addr} {fd : FuncData} (F : FnP K "walls" "Field.walls" s_Field_walls f fd) (B : Bt mg) (TF : FTx K mg) : FnOk P w K mg base CX0 1 f fd ["self"] (spWalls K) := by
  refine F.ok sc_Field_walls (fun vs H Q E h => ?_) (fun cdv A outer s H vs Q E hr h => ?_)
  · obtain ⟨p, l, ws, rfl, _⟩ := h
    rfl
  · obtain ⟨p, l, ws, rfl, ⟨⟨dx, e⟩, hl⟩, hn, k⟩ := h
    refine ⟨_, PSs.nox (pss_one (ps_ret (pe_callTy call_list_of (by rfl) B.list (by decide +kernel) (pa_cons (pe_fld (pv 0) rfl) pa_nil)))), ?_⟩
    obtain ⟨xs, ex, rx⟩ := hl
    refine ⟨_, rfl, p, _, dx, _, _, rfl, e, TF.cl, TF.nP, rfl, l, xs, rfl, .inl (SqL.of ex), fun m hm => ?_⟩
    exact k m _ hm (same_new hm) (RL.new hm rx)

theorem sc_law_low : FnScope ["top", "bottom", "one", "other", "rest"] ["top", "bottom"] (defScope s_law_low) := ⟨rfl, rfl, rfl, by decide +kernel, rfl, by decide +kernel, by decide +kernel⟩
theorem ok_law_low (D : Df K mg "_law_low" s_law_low) (B : Bt mg) : Gd CX0 P w K mg base 1 "_law_low" ["top", "bottom"] (spLow K) := by
  refine gd_of D sc_law_low (fun _ _ _ _ _ _ us hl => match us, hl with | [_, _], _ => rfl) (fun vs H Q E h => ?_) (fun f cdv A outer s H vs Q E hr h => ?_)
  · obtain ⟨t, b, rfl, _⟩ := h
    rfl
  · obtain ⟨t, b, rfl, hb, hl, k⟩ := h
    refine ⟨_, PSs.nox (pss_cons (ps_set (i := 2) sc_law_low.nd rfl (Or.inl rfl) (pe_callB call_abs (by rfl) B.abs (by decide +kernel) (pa_cons (pv 0) pa_nil)))
      (pss_cons (ps_set (i := 3) sc_law_low.nd rfl (Or.inl rfl) (pv 1))
      (pss_cons (ps_while PassesOwn.never (pt_cmpR op_gt (pv 3) pe_int (nomark _)) (pss_cons (ps_set (i := 4) sc_law_low.nd rfl (Or.inl rfl) (pe_op op_modN (pv 2) (pv 3))) (pss_cons (ps_set (i := 2) sc_law_low.nd rfl (Or.inl rfl) (pv 3)) (pss_one (ps_set (i := 3) sc_law_low.nd rfl (Or.inl rfl) (pv 4))))))
      (pss_one (ps_ret (pe_tup (pa_cons (pe_op op_fdivW (pv 0) (pv 2)) (pa_cons (pe_op op_fdivW (pv 1) (pv 2)) pa_nil)))))))), ?_⟩
    refine ⟨_, rfl, _, rfl, _, rfl, ?_⟩
    obtain ⟨c1, c2, e1, e2⟩ := low_facts t b b rfl hb hl
    refine ⟨fun m σ H1 => H1 = H ∧ ∃ (x y : Nat) (r : Option V), σ = [some (.int t), some (.int (b : Nat)), some (.int x), some (.int y), r] ∧ m = y ∧ Nat.gcd x y = Nat.gcd t.natAbs b,
      ⟨b, rfl, t.natAbs, b, none, congrArg (fun z => [some (V.int t), some (V.int (b : Nat)), some (V.int z), some (V.int (b : Nat)), none]) (abs_int t), rfl, rfl⟩, ?_⟩
    rintro m σ H1 ⟨rfl, x, y, r, rfl, rfl, eg⟩
    refine ⟨_, rfl, _, _, rfl, rfl, _, rfl, ?_⟩
    refine if2 (fun hy => ?_) (fun hy => ?_)
    · have hy : 0 < m := by omega
      refine ⟨fun σ' H' => H' = H1 ∧ ∃ r : Option V, σ' = [some (.int t), some (.int (b : Nat)), some (.int (m : Nat)), some (.int ((x % m : Nat) : Int)), r], ?_, ?_⟩
      · rintro σ' H' ⟨rfl, r', rfl⟩
        refine ⟨x % m, Nat.mod_lt _ hy, rfl, m, x % m, r', rfl, rfl, ?_⟩
        rw [← eg, Nat.gcd_comm x m, Nat.gcd_rec m x, Nat.gcd_comm m]
      · refine ⟨_, rfl, _, rfl, _, _, rfl, rfl, (by omega), ?_⟩
        refine ⟨_, rfl, _, rfl, rfl, some (.int ((x % m : Nat) : Int)), ?_⟩
        have ef : Int.fmod (x : Int) (m : Int) = ((x % m : Nat) : Int) := by rw [Int.fmod_eq_emod_of_nonneg _ (by omega)]; rfl
        exact congrArg (fun z => [some (V.int t), some (V.int (b : Nat)), some (V.int (m : Nat)), some (V.int z), some (V.int z)]) ef
    · have e : m = 0 := by omega
      subst e
      rw [Nat.gcd_zero_right] at eg
      subst eg
      refine ⟨_, rfl, _, rfl, _, _, rfl, rfl, c1, _, rfl, _, rfl, _, _, rfl, rfl, c2, (by show 2 ≤ sizeLine; decide), fun p hp => ?_⟩
      exact k p _ (same_new hp) (rat_new (congrArg V.int e1) (congrArg V.int e2))

theorem sc_law_side : FnScope ["cell", "bottom"] ["cell"] (defScope s_law_side) := ⟨rfl, rfl, rfl, by decide +kernel, rfl, by decide +kernel, by decide +kernel⟩
theorem ok_law_side (D : Df K mg "_law_side" s_law_side) (B : Bt mg) (g_law_low : Gd CX0 P w K mg base 1 "_law_low" ["top", "bottom"] (spLow K)) : Gd CX0 P w K mg base 2 "_law_side" ["cell"] (spSide K) := by
  refine gd_of D sc_law_side (fun _ _ _ _ _ _ us hl => match us, hl with | [_], _ => rfl) (fun vs H Q E h => ?_) (fun f cdv A outer s H vs Q E hr h => ?_)
  · obtain ⟨c, rfl, _⟩ := h
    rfl
  · obtain ⟨c, rfl, k⟩ := h
    refine ⟨_, PSs.nox (pss_cons (ps_set (i := 1) sc_law_side.nd rfl (Or.inl rfl) (pe_op op_add pe_int (pe_op op_mod (pv 0) pe_int)))
      (C8.pss_cut (ps_if (pt_cmpR op_eq (pe_op op_mod (pe_op op_fdiv (pv 0) pe_int) pe_int) pe_int (nomark _)) (pss_one (ps_set (i := 1) sc_law_side.nd rfl (Or.inl rfl) pe_int)) pss_nil)
      (pss_one (ps_ret (pe_gd g_law_low hr (pa_cons (pe_op op_mod (pe_op op_fdiv (pv 0) pe_int) (pe_op op_add (pv 1) pe_int)) (pa_cons (pv 1) pa_nil))))))), ?_⟩
    refine ⟨_, rfl, _, _, rfl, rfl, (by show (0 : Int) < 6; decide), _, _, rfl, rfl, ?_⟩
    refine ⟨fun σ' H' => H' = H ∧ ∃ n : Nat, σ' = [some (.int c), some (.int (n : Int))] ∧ n ≠ 0 ∧ n ≤ 1000 ∧ mkRat (c / 30 % ((n : Int) + 1)) n = sideOf c, ?_, ?_⟩
    · refine ⟨_, rfl, _, _, rfl, rfl, ⟨by decide, by decide⟩, _, _, rfl, rfl, (by show (0 : Int) < 5; decide), rfl, _, rfl, ?_⟩
      have m0 : 0 ≤ c % 6 := Int.emod_nonneg _ (by decide)
      have m1 : c % 6 < 6 := Int.emod_lt_of_pos _ (by decide)
      refine ifB (fun he => ?_) (fun he => ?_)
      · have e : c / 6 % 5 = 0 := V.int.inj (of_decide_eq_true he)
        refine ⟨rfl, 1, rfl, by decide, by decide, ?_⟩
        unfold sideOf
        rw [if_pos e]
        rfl
      · have e : ¬ c / 6 % 5 = 0 := deqF he
        obtain ⟨n, en⟩ := Int.eq_ofNat_of_zero_le (show 0 ≤ 1 + c % 6 by omega)
        refine ⟨rfl, n, congrArg (fun z => [some (V.int c), some (V.int z)]) en, by omega, by omega, ?_⟩
        unfold sideOf
        rw [if_neg e, en, Int.toNat_natCast]
    · rintro σ' H' ⟨rfl, n, rfl, n0, n1, er⟩
      refine ⟨_, rfl, _, _, rfl, rfl, ⟨by decide, by decide⟩, _, rfl, _, _, rfl, rfl, _, _, rfl, rfl, (by show (0 : Int) < (n : Int) + 1; omega), _, rfl, ?_⟩
      refine ⟨_, n, rfl, n0, Nat.lt_of_le_of_lt n1 (Nat.lt_of_lt_of_le (m := 2 ^ 10) (by decide) (Nat.pow_le_pow_right (by decide) (by decide))), fun r H' s hr => ?_⟩
      rw [er] at hr
      exact k r H' s hr

theorem sc_law_cell_at : FnScope ["script", "k"] ["script", "k"] (defScope s_law_cell_at) := ⟨rfl, rfl, rfl, by decide +kernel, rfl, by decide +kernel, by decide +kernel⟩
theorem ok_law_cell_at (D : Df K mg "_law_cell_at" s_law_cell_at) (B : Bt mg) : Gd CX0 P w K mg base 1 "_law_cell_at" ["script", "k"] (spCellAt K) := by
  refine gd_of D sc_law_cell_at (fun _ _ _ _ _ _ us hl => match us, hl with | [_, _], _ => rfl) (fun vs H Q E h => ?_) (fun f cdv A outer s H vs Q E hr h => ?_)
  · obtain ⟨a, ns, k, rfl, _⟩ := h
    rfl
  · obtain ⟨a, ns, k, rfl, hS, q⟩ := h
    refine ⟨_, PSs.nox (pss_cons (ps_if (pt_cmpR op_lt (pv 1) (pe_callB call_len_seq (by rfl) B.len (by decide +kernel) (pa_cons (pv 0) pa_nil)) (nomark _)) (pss_one (ps_ret (pe_ix ix_list (pv 0) (pv 1) (fun _ _ => rfl)))) pss_nil)
      (pss_one (ps_ret pe_int))), ?_⟩
    refine ⟨_, rfl, _, rfl, a, _, rfl, .inl hS, _, _, rfl, rfl, _, rfl, ?_⟩
    rw [List.length_map]
    refine if2 (fun hk => ?_) (fun hk => ?_)
    · have hk : k < ns.length := by omega
      refine ⟨_, rfl, _, rfl, a, _, _, .int (cellAt ns k), rfl, rfl, hS, atI_nat ?_, q⟩
      rw [List.getElem?_map, List.getElem?_eq_getElem hk]
      show some (V.int ns[k]) = some (V.int (ns.getD k 0))
      rw [List.getD_eq_getElem?_getD, List.getElem?_eq_getElem hk]
      rfl
    · have e : cellAt ns k = 0 := by
        unfold cellAt
        rw [List.getD_eq_getElem?_getD, List.getElem?_eq_none (by omega)]
        rfl
      rw [e] at q
      exact q

theorem sc_law_sides : FnScope ["script", "first", "most", "k"] ["script", "first", "most"] (defScope s_law_sides) := ⟨rfl, rfl, rfl, by decide +kernel, rfl, by decide +kernel, by decide +kernel⟩
theorem ok_law_sides (D : Df K mg "_law_sides" s_law_sides) (B : Bt mg) (g_law_side : Gd CX0 P w K mg base 2 "_law_side" ["cell"] (spSide K)) (g_law_cell_at : Gd CX0 P w K mg base 1 "_law_cell_at" ["script", "k"] (spCellAt K)) : Gd CX0 P w K mg base 3 "_law_sides" ["script", "first", "most"] (spSides K) := by
  refine gd_of D sc_law_sides (fun _ _ _ _ _ _ us hl => match us, hl with | [_, _, _], _ => rfl) (fun vs H Q E h => ?_) (fun f cdv A outer s H vs Q E hr h => ?_)
  · obtain ⟨a, ns, fi, mo, rfl, _⟩ := h
    rfl
  · obtain ⟨a, ns, fi, mo, rfl, hS, hm0, hm1, k⟩ := h
    refine ⟨_, PSs.nox (pss_one (ps_ret (pe_lc (own := [("k", 3)]) (g := (gName 3)) (tt := tYes) rfl sc_law_sides.nd (pi_range1 (by rfl) B.range (pa_cons (pe_op op_add pe_int (pe_op op_mod (pe_gd g_law_cell_at hr (pa_cons (pv 0) (pa_cons (pv 1) pa_nil))) (pv 2))) pa_nil)) (blkOk_by (own := [("k", 3)]) (N := ["script", "first", "most", "k"]) (sc := defScope s_law_sides) (by decide +kernel)) (fun _ _ _ _ _ => (pg_name (i := 3) sc_law_sides.nd rfl (Or.inl rfl))) (fun _ _ _ _ _ => pts_nil) (fun _ _ _ _ _ => (pe_gd g_law_side hr (pa_cons (pe_gd g_law_cell_at hr (pa_cons (pv 0) (pa_cons (pe_op op_add (pe_op op_add (pv 1) pe_int) (pv 3)) pa_nil))) pa_nil)))))), ?_⟩
    have c0 : 0 ≤ cellAt ns fi % mo := Int.emod_nonneg _ (by omega)
    have c1 : cellAt ns fi % mo < mo := Int.emod_lt_of_pos _ hm0
    refine ⟨_, rfl, _, rfl, a, ns, fi, rfl, hS, _, rfl, _, _, rfl, rfl, hm0, _, _, rfl, rfl, _, rfl, by omega, by omega, fun D hD => ?_⟩
    refine lc_range (lo := 0) (n := (1 + cellAt ns fi % mo).toNat) (fun i H' => Same H H' ∧ RL K H' D ((List.range i).map fun k => sideOf (cellAt ns (fi + 1 + k)))) ⟨same_new hD, RL.new hD Rats.nil⟩ ?_ ?_
    · rintro i H1 hi ⟨s1, r1⟩
      refine ⟨rfl, yesQ (ifT rfl ?_)⟩
      refine ⟨_, rfl, _, rfl, _, _, rfl, rfl, _, rfl, _, _, rfl, rfl, a, ns, fi + 1 + i, ?_, s1.seq hS, _, rfl, fun r H2 s2 hr => ?_⟩
      · show [V.ref a, V.int ((fi : Int) + 1 + (0 + (i : Int)))] = _
        rw [show (fi : Int) + 1 + (0 + (i : Int)) = ((fi + 1 + i : Nat) : Int) by omega]
      · obtain ⟨acc, ea, ra⟩ := r1.same s2
        refine ⟨acc, ea, small1000 (by rw [ra.1, List.length_map, List.length_range]; omega), same_but (s1.trans s2) hD (fun b hb => upd_ne hb), ?_⟩
        rw [List.range_succ, List.map_append]
        exact RL.upd ea (ra.push hr)
    · rintro H1 ⟨s1, r1⟩
      exact k D H1 s1 hD r1

theorem sc_law_whole : FnScope ["found"] ["found"] (defScope s_law_whole) := ⟨rfl, rfl, rfl, by decide +kernel, rfl, by decide +kernel, by decide +kernel⟩
theorem ok_law_whole (D : Df K mg "_law_whole" s_law_whole) (B : Bt mg) : Gd CX0 P w K mg base 1 "_law_whole" ["found"] (spWhole) := by
  refine gd_of D sc_law_whole (fun _ _ _ _ _ _ us hl => match us, hl with | [_], _ => rfl) (fun vs H Q E h => ?_) (fun f cdv A outer s H vs Q E hr h => ?_)
  · obtain ⟨i, rfl, _⟩ := h
    rfl
  · obtain ⟨i, rfl, q⟩ := h
    refine ⟨_, PSs.nox (pss_one (ps_ret (pe_and (pe_callB call_isi (by rfl) B.isi (by decide +kernel) (pa_cons (pv 0) (pa_cons (pe_bltn (v := .ty "int") (by rfl) B.int (by decide +kernel) rfl) pa_nil))) (pe_one (pe_not (pe_callB call_isi (by rfl) B.isi (by decide +kernel) (pa_cons (pv 0) (pa_cons (pe_bltn (v := .ty "bool") (by rfl) B.bool (by decide +kernel) rfl) pa_nil)))))))), ?_⟩
    refine ⟨_, rfl, _, _, _, _, true, rfl, .ty _, .base (.int i), kit_ty (by decide +kernel), true, rfl, ifT rfl ?_⟩
    exact ⟨_, rfl, _, _, _, _, false, rfl, .ty _, .base (.int i), kit_ty (by decide +kernel), false, rfl, q⟩

theorem sc_law_parts : FnScope ["found", "due", "k", "part"] ["found", "due"] (defScope s_law_parts) := ⟨rfl, rfl, rfl, by decide +kernel, rfl, by decide +kernel, by decide +kernel⟩
theorem ok_law_parts (D : Df K mg "_law_parts" s_law_parts) (B : Bt mg) (g_law_whole : Gd CX0 P w K mg base 1 "_law_whole" ["found"] (spWhole)) : Gd CX0 P w K mg base 2 "_law_parts" ["found", "due"] (spParts K) := by
  refine gd_of D sc_law_parts (fun _ _ _ _ _ _ us hl => match us, hl with | [_, _], _ => rfl) (fun vs H Q E h => ?_) (fun f cdv A outer s H vs Q E hr h => ?_)
  · obtain ⟨l, m, qs, ps, rfl, _⟩ := h
    rfl
  · obtain ⟨l, m, qs, ps, rfl, hl, hm, hn, k⟩ := h
    refine ⟨_, PSs.nox (pss_cons (ps_if (PW.pt (pw_or (pt_not (pt_val (pe_callB call_isi (by rfl) B.isi (by decide +kernel) (pa_cons (pv 0) (pa_cons (pe_bltn (v := .ty "list") (by rfl) B.list (by decide +kernel) rfl) pa_nil))))) (pw_or1 (pt_cmpR op_ne (pe_callB call_len_seq (by rfl) B.len (by decide +kernel) (pa_cons (pv 0) pa_nil)) (pe_callB call_len_seq (by rfl) B.len (by decide +kernel) (pa_cons (pv 1) pa_nil)) (nomark _))))) (pss_one (ps_ret pe_bl)) pss_nil)
      (pss_cons (ps_for PassesOwn.never rfl (pi_range1 (by rfl) B.range (pa_cons (pe_callB call_len_seq (by rfl) B.len (by decide +kernel) (pa_cons (pv 1) pa_nil)) pa_nil)) (pg_name (i := 2) sc_law_parts.nd rfl (Or.inl rfl)) (pss_cons (ps_set (i := 3) sc_law_parts.nd rfl (Or.inl rfl) (pe_ix ix_list (pv 0) (pv 2) (fun _ _ => rfl))) (pss_cons (ps_if (PW.pt (pw_or (pt_not (pt_val (pe_callB call_isi (by rfl) B.isi (by decide +kernel) (pa_cons (pv 3) (pa_cons (pe_bltn (v := .ty "tuple") (by rfl) B.tuple (by decide +kernel) rfl) pa_nil))))) (pw_or (pt_cmpR op_ne (pe_callB call_len_seq (by rfl) B.len (by decide +kernel) (pa_cons (pv 3) pa_nil)) pe_int (nomark _)) (pw_or (pt_not (pt_val (pe_gd g_law_whole hr (pa_cons (pe_num 3) pa_nil)))) (pw_or1 (pt_not (pt_val (pe_gd g_law_whole hr (pa_cons (pe_den 3) pa_nil))))))))) (pss_one (ps_ret pe_bl)) pss_nil) (pss_one (ps_if (pt_cmpR (op_neD hr.units) (pv 3) (pe_ix ix_list (pv 1) (pv 2) (fun _ _ => rfl)) (nomark _)) (pss_one (ps_ret pe_bl)) pss_nil)))))
      (pss_one (ps_ret pe_bl)))), ?_⟩
    obtain ⟨xs, ex, rx⟩ := id hl
    obtain ⟨ys, ey, ry⟩ := id hm
    refine ⟨_, rfl, _, _, _, _, true, rfl, .ty _, .base (.lst ex), kit_ty (by decide +kernel), true, rfl, ifF rfl ?_⟩
    refine ⟨_, rfl, l, xs, rfl, .inl (SqL.of ex), _, rfl, m, ys, rfl, .inl (SqL.of ey), rfl, _, rfl, ?_⟩
    rw [rx.1, ry.1]
    refine ifB (fun hne => ?_) (fun hne => ?_)
    · have e : ¬ qs = ps := fun z => by
        subst z
        simp at hne
      rw [decide_eq_false e] at k
      exact k
    · have el : qs.length = ps.length := by
        have h1 : decide (V.int (qs.length : Int) = V.int (ps.length : Int)) = true := by simpa using hne
        have h2 := V.int.inj (of_decide_eq_true h1)
        omega
      refine ⟨_, rfl, m, ys, rfl, .inl (SqL.of ey), (ys.length : Int), rfl, by rw [ry.1]; omega, by rw [ry.1]; omega, ?_⟩
      rw [ry.1, Int.toNat_natCast]
      refine for_range (lo := 0) (n := ps.length) (fun i σ H' => H' = H ∧ qs.take i = ps.take i ∧ ∃ kv pv : Option V, σ = [some (.ref l), some (.ref m), kv, pv]) ⟨rfl, by rw [List.take_zero, List.take_zero], none, none, rfl⟩ ?_ ?_
      · rintro i σ H' hi ⟨rfl, et, kv, pv', rfl⟩
        have g1 : qs[i]? = some (qs[i]'(by omega)) := List.getElem?_eq_getElem (by omega)
        have g2 : ps[i]? = some ps[i] := List.getElem?_eq_getElem hi
        refine ⟨_, rfl, _, rfl, ixr hl g1 (by omega) fun v hv => ?_⟩
        obtain ⟨a, rfl, ha⟩ := id hv
        refine ⟨_, rfl, _, _, _, _, true, rfl, .ty _, tyx_tup ha, kit_ty (by decide +kernel), true, rfl, ifF rfl ?_⟩
        refine ⟨_, rfl, a, _, rfl, .inr ha, rfl, _, rfl, ifF rfl ?_⟩
        refine ⟨_, _, rfl, hv, _, rfl, true, rfl, ifF rfl ?_⟩
        refine ⟨_, _, rfl, hv, _, rfl, true, rfl, ifF rfl ?_⟩
        refine ⟨_, rfl, _, rfl, _, rfl, ixr hm g2 (by omega) fun u hu => ?_⟩
        refine ⟨_, _, hv.dp, hu.dp, sh_rat _, sh_rat _, _, rfl, ?_⟩
        rw [eqv_rat]
        refine ifB (fun hne => ?_) (fun hne => ?_)
        · have e : ¬ qs = ps := fun z => by
            subst z
            simp at hne
          rw [decide_eq_false e] at k
          exact k
        · have e : qs[i]'(by omega) = ps[i] := by simpa using hne
          refine ⟨rfl, ?_, _, _, rfl⟩
          rw [List.take_succ, List.take_succ, g1, g2, et, e]
      · rintro σ H' ⟨rfl, et, kv, pv', rfl⟩
        have e : qs = ps := by
          rw [List.take_length] at et
          rw [← et, ← el, List.take_length]
        rw [decide_eq_true e] at k
        exact k

theorem sc_shown : FnScope ["field", "wall"] ["field"] (defScope s_shown) := ⟨rfl, rfl, rfl, by decide +kernel, rfl, by decide +kernel, by decide +kernel⟩
theorem ok_shown (D : Df K mg "shown" s_shown) (B : Bt mg) (TF : FTx K mg) (gW : WallsOk P w K mg base) : Gd CX0 P w K mg base 2 "shown" ["field"] (spShown K) := by
  obtain ⟨fW, fdW, FW, MW, bW⟩ := gW
  refine gd_of D sc_shown (fun _ _ _ _ _ _ us hl => match us, hl with | [_], _ => rfl) (fun vs H Q E h => ?_) (fun f cdv A outer s H vs Q E hr h => ?_)
  · obtain ⟨f, l, ws, rfl, _⟩ := h
    rfl
  · obtain ⟨f, l, ws, rfl, hF, h8, hw, k⟩ := h
    refine ⟨_, PSs.nox (pss_one (ps_ret (pe_join pe_str (pe_lc (own := [("wall", 1)]) (g := (gName 1)) (tt := tYes) rfl sc_shown.nd (pi_list (pe_meth0 (pv 0) TF.cl MW FW (hr.mono (by decide)) bW .nil pass0)) (blkOk_by (own := [("wall", 1)]) (N := ["field", "wall"]) (sc := defScope s_shown) (by decide +kernel)) (fun _ _ _ _ _ => (pg_name (i := 1) sc_shown.nd rfl (Or.inl rfl))) (fun _ _ _ _ _ => pts_nil) (fun _ _ _ _ _ => (pe_op op_add_str (pe_op op_add_str (pe_callTy call_str_int (by rfl) B.str (by decide +kernel) (pa_cons (pe_numK (K := K) 1 rfl) pa_nil)) pe_str) (pe_callTy call_str_int (by rfl) B.str (by decide +kernel) (pa_cons (pe_denK (K := K) 1 rfl) pa_nil)))))))), ?_⟩
    refine ⟨⟨_, rfl⟩, _, rfl, ask_walls hF (by omega) fun w1 H1 nw1 s1 rw1 => ?_⟩
    obtain ⟨xs, ex, rx⟩ := id rw1
    refine ⟨w1, rfl, ⟨xs, SqL.of ex⟩, fun D hD => ?_⟩
    refine lc_list (K := K) (a := w1) (xs := xs) (fun i H' => Same H1 H' ∧ H' D = some (.lst (((ws.take i).map fun q => S (wordOf q)).map V.str))) ⟨same_new hD, upd_same⟩ (fun i H' _ ⟨s3, _⟩ => SqL.of (s3 _ _ ex)) ?_ ?_
    · rintro i v H2 hi ⟨s2, e2⟩
      have hil : i < ws.length := by rw [← rx.1]; exact (List.getElem?_eq_some_iff.mp hi).1
      have e1 : ws[i]? = some ws[i] := List.getElem?_eq_getElem hil
      have rv : RatAt K H2 v ws[i] := (rx.2 i v _ hi e1).same s2
      have wq := hw ws[i] (List.getElem_mem hil)
      have la := numL_len (k := 12) (by decide) wq.2.1
      have lb := numL_len (k := 12) (by decide) wq.2.2
      refine ⟨rfl, yesQ (ifT rfl ?_)⟩
      refine ⟨_, _, rfl, rv, _, rfl, log_small wq.1 wq.2.1, _, _, rfl, rfl, ?_, ?_⟩
      · rw [show_num wq.1, sSl, S_len, S_len]
        exact Nat.le_trans (show (numL ws[i].num.toNat).length + 1 ≤ 13 by omega) (by decide)
      refine ⟨_, _, rfl, rv, _, rfl, log_small (by omega) (by rw [Int.toNat_natCast]; exact wq.2.2), _, _, rfl, rfl, ?_, ?_⟩
      · rw [show_num wq.1, sSl, num_S, S_cat, S_len, S_len, List.length_append, List.length_singleton]
        exact Nat.le_trans (show (numL ws[i].num.toNat).length + 1 + (numL ws[i].den).length ≤ 25 by omega) (by decide)
      refine ⟨_, e2, ?_, same_but s2 hD (fun b hb => upd_ne hb), ?_⟩
      · rw [List.length_map, List.length_map, List.length_take]
        exact small1000 (by omega)
      · rw [upd_same, show_num wq.1, sSl, num_S, S_cat, S_cat, List.append_assoc, List.take_succ, e1, List.map_append, List.map_append]
        rfl
    · rintro H2 ⟨s2, e2⟩
      rw [rx.1, List.take_length] at e2
      refine ⟨S [32], D, _, congrArg V.str sSp, rfl, .inl (SqL.of e2), ?_, ?_⟩
      · have z := words_sum hw
        have z2 : (S [32]).length = 1 := rfl
        rw [List.length_map, z2]
        exact Nat.le_trans (show _ ≤ 1000 by omega) (by decide)
      · have ej : Txt.join (S [32]) (ws.map fun q => S (wordOf q)) = S (textOf ws) := by
          have e := SX.join_S [32] (ws.map wordOf)
          rw [List.map_map] at e
          exact e
        rw [ej]
        exact k _ (s1.trans s2)

theorem sc_number_of : FnScope ["word", "sign"] ["word"] (defScope s_number_of) := ⟨rfl, rfl, rfl, by decide +kernel, rfl, by decide +kernel, by decide +kernel⟩
theorem ok_number_of (D : Df K mg "number_of" s_number_of) (B : Bt mg) (fG : ∃ t, mg "FIGURES" = some (.str (Str.ofString "0123456789") t)) : Gd CX0 P w K mg base 1 "number_of" ["word"] (spNumber) := by
  obtain ⟨tFig, eFig⟩ := fG
  refine gd_of D sc_number_of (fun _ _ _ _ _ _ us hl => match us, hl with | [_], _ => rfl) (fun vs H Q E h => ?_) (fun f cdv A outer s H vs Q E hr h => ?_)
  · obtain ⟨w, rfl, _⟩ := h
    rfl
  · obtain ⟨w, rfl, ⟨h1, h2, h3, h4⟩, k⟩ := h
    refine ⟨_, PSs.nox (C8.pss_cut (ps_if (PW.pt (pw_or (pt_cmpR op_eq (pv 0) pe_str (nomark _)) (pw_or (pt_cmpR op_gt (pe_callB call_len_str (by rfl) B.len (by decide +kernel) (pa_cons (pv 0) pa_nil)) pe_int (nomark _)) (pw_or1 (PW.pt (pw_and (pt_cmpR op_eq (pe_ix ix_str (pv 0) pe_int (fun _ _ => rfl)) pe_str (nomark _)) (pw_and1 (pt_cmpR op_ne (pv 0) pe_str (nomark _))))))))) (pss_one ps_never) pss_nil)
      (pss_cons (ps_for PassesOwn.never rfl (pi_str (pv 0)) (pg_name (i := 1) sc_number_of.nd rfl (Or.inl rfl)) (pss_one (ps_if (pt_cmpR op_notIn_sign (pv 1) (pe_glob (v := .str (Str.ofString "0123456789")) rfl eFig ⟨_, rfl⟩) (by rfl)) (pss_one ps_never) pss_nil)))
      (pss_one (ps_ret (pe_callTy call_int_str (by rfl) B.int (by decide +kernel) (pa_cons (pv 0) pa_nil)))))), ?_⟩
    have hl : (S w).length ≤ sizeLine := by
      rw [S_len]
      exact Nat.le_trans h2 (by decide)
    have i1 : ∀ a b : List Nat, a ≠ b → decide (V.str (S a) = V.str (S b)) = false := fun a b hab => decide_eq_false fun z => hab (S_inj (V.str.inj z))
    refine ⟨fun σ' H' => σ' = [some (.str (S w)), none] ∧ H' = H, ?_, ?_⟩
    · refine ⟨_, rfl, rfl, _, rfl, ifF (by rw [sE]; exact i1 _ _ h1) ?_⟩
      refine ⟨_, rfl, S w, rfl, hl, _, _, rfl, rfl, _, rfl, ifF (decide_eq_false (by rw [S_len]; omega)) ?_⟩
      obtain ⟨c, r, rfl⟩ := List.exists_cons_of_ne_nil h1
      refine ⟨_, rfl, S (c :: r), 0, c, rfl, rfl, hl, atI_nat (j := 0) rfl, rfl, _, rfl, ?_⟩
      refine ifB (fun q => ?_) (fun q => ?_)
      · have e0 : V.str (S [c]) = V.str (S [48]) := by
          have z := of_decide_eq_true q
          rw [s0] at z
          exact z
        have e1 : c = 48 := by
          have z := S_inj (V.str.inj e0)
          simpa using z
        have e2 := h3 (by rw [e1]; rfl)
        refine ⟨_, rfl, rfl, _, rfl, ifF ?_ ⟨rfl, rfl⟩⟩
        rw [e2, s0]
        simp
      · exact ifF rfl ⟨rfl, rfl⟩
    rintro σ' H' ⟨rfl, rfl⟩
    refine ⟨_, rfl, S w, rfl, for_str (x := S w) (fun i σ H2 => H2 = H' ∧ ∃ sv : Option V, σ = [some (.str (S w)), sv]) ⟨rfl, none, rfl⟩ ?_ ?_⟩
    · rintro i c σ H2 hc ⟨rfl, sv, rfl⟩
      have hm : c ∈ w := by
        have z : (S w).cps[i]? = some c := hc
        have z2 : w[i]? = some c := by
          rw [← z]
          simp [S]
        exact List.mem_of_getElem? z2
      refine ⟨_, rfl, c, S [48, 49, 50, 51, 52, 53, 54, 55, 56, 57], rfl, congrArg V.str sFig, _, rfl, ifF ?_ ⟨rfl, _, rfl⟩⟩
      rw [decide_eq_true ((fig_mem c).mpr (h4 c hm))]
      rfl
    · rintro σ H2 ⟨rfl, sv, rfl⟩
      refine ⟨_, rfl, S w, _, rfl, SX.int_S ?_ h1 (by omega), by rw [S_len]; omega, k⟩
      rw [List.all_eq_true]
      intro c hc
      have z := h4 c hc
      rw [decide_eq_true z.1, decide_eq_true z.2]
      rfl

theorem sc_common : FnScope ["one", "other", "rest"] ["one", "other"] (defScope s_common) := ⟨rfl, rfl, rfl, by decide +kernel, rfl, by decide +kernel, by decide +kernel⟩
theorem ok_common (D : Df K mg "common" s_common) (B : Bt mg) : Gd CX0 P w K mg base 1 "common" ["one", "other"] (spCommon) := by
  refine gd_of D sc_common (fun _ _ _ _ _ _ us hl => match us, hl with | [_, _], _ => rfl) (fun vs H Q E h => ?_) (fun f cdv A outer s H vs Q E hr h => ?_)
  · obtain ⟨a, b, rfl, _⟩ := h
    rfl
  · obtain ⟨a, b, rfl, k⟩ := h
    refine ⟨_, PSs.nox (pss_cons (ps_while PassesOwn.never (pt_cmpR op_gt (pv 1) pe_int (nomark _)) (pss_cons (ps_set (i := 2) sc_common.nd rfl (Or.inl rfl) (pe_op op_modN (pv 0) (pv 1))) (pss_cons (ps_set (i := 0) sc_common.nd rfl (Or.inl rfl) (pv 1)) (pss_one (ps_set (i := 1) sc_common.nd rfl (Or.inl rfl) (pv 2))))))
      (pss_one (ps_ret (pv 0)))), ?_⟩
    refine ⟨fun m σ H1 => H1 = H ∧ ∃ (x y : Nat) (r : Option V), σ = [some (.int x), some (.int y), r] ∧ m = y ∧ Nat.gcd x y = Nat.gcd a b, ⟨b, rfl, a, b, none, rfl, rfl, rfl⟩, ?_⟩
    rintro m σ H1 ⟨rfl, x, y, r, rfl, rfl, eg⟩
    refine ⟨_, rfl, _, _, rfl, rfl, _, rfl, ?_⟩
    refine if2 (fun hy => ?_) (fun hy => ?_)
    · have hy : 0 < m := by omega
      refine ⟨fun σ' H' => H' = H1 ∧ ∃ r : Option V, σ' = [some (.int (m : Nat)), some (.int ((x % m : Nat) : Int)), r], ?_, ?_⟩
      · rintro σ' H' ⟨rfl, r', rfl⟩
        refine ⟨x % m, Nat.mod_lt _ hy, rfl, m, x % m, r', rfl, rfl, ?_⟩
        rw [← eg, Nat.gcd_comm x m, Nat.gcd_rec m x, Nat.gcd_comm m]
      · refine ⟨_, rfl, _, rfl, _, _, rfl, rfl, (by omega), ?_⟩
        refine ⟨_, rfl, _, rfl, rfl, some (.int ((x % m : Nat) : Int)), ?_⟩
        have ef : Int.fmod (x : Int) (m : Int) = ((x % m : Nat) : Int) := by rw [Int.fmod_eq_emod_of_nonneg _ (by omega)]; rfl
        exact congrArg (fun z => [some (V.int (m : Nat)), some (V.int z), some (V.int z)]) ef
    · have e : m = 0 := by omega
      subst e
      refine ⟨_, rfl, ?_⟩
      rw [Nat.gcd_zero_right] at eg
      rw [eg]
      exact k

theorem sc_part_of : FnScope ["word", "pieces", "top", "bottom"] ["word"] (defScope s_part_of) := ⟨rfl, rfl, rfl, by decide +kernel, rfl, by decide +kernel, by decide +kernel⟩
theorem ok_part_of (D : Df K mg "part_of" s_part_of) (B : Bt mg) (g_number_of : Gd CX0 P w K mg base 1 "number_of" ["word"] (spNumber)) (g_common : Gd CX0 P w K mg base 1 "common" ["one", "other"] (spCommon)) : Gd CX0 P w K mg base 2 "part_of" ["word"] (spPart K) := by
  refine gd_of D sc_part_of (fun _ _ _ _ _ _ us hl => match us, hl with | [_], _ => rfl) (fun vs H Q E h => ?_) (fun f cdv A outer s H vs Q E hr h => ?_)
  · obtain ⟨q, rfl, _⟩ := h
    rfl
  · obtain ⟨q, rfl, hq, k⟩ := h
    refine ⟨_, PSs.nox (pss_cons (ps_set (i := 1) sc_part_of.nd rfl (Or.inl rfl) (pe_split (pv 0) pe_str))
      (pss_cons (ps_if (pt_cmpR op_ne (pe_callB call_len_seq (by rfl) B.len (by decide +kernel) (pa_cons (pv 1) pa_nil)) pe_int (nomark _)) (pss_one ps_never) pss_nil)
      (pss_cons (ps_set (i := 2) sc_part_of.nd rfl (Or.inl rfl) (pe_gd g_number_of hr (pa_cons (pe_ix ix_list (pv 1) pe_int (fun _ _ => rfl)) pa_nil)))
      (pss_cons (ps_set (i := 3) sc_part_of.nd rfl (Or.inl rfl) (pe_gd g_number_of hr (pa_cons (pe_ix ix_list (pv 1) pe_int (fun _ _ => rfl)) pa_nil)))
      (pss_cons (ps_if (PW.pt (pw_or (pt_cmpR op_eq (pv 3) pe_int (nomark _)) (pw_or1 (pt_cmpR op_ne (pe_gd g_common hr (pa_cons (pv 2) (pa_cons (pv 3) pa_nil))) pe_int (nomark _))))) (pss_one ps_never) pss_nil)
      (pss_one (ps_ret (pe_tup (pa_cons (pv 2) (pa_cons (pv 3) pa_nil)))))))))), ?_⟩
    have hl := word_len hq
    refine ⟨_, rfl, ⟨_, rfl⟩, S (wordOf q), S [47], rfl, congrArg (fun z => [V.str z]) sSl, rfl, by rw [S_len]; exact Nat.le_trans (show (wordOf q).length + 2 ≤ 27 by omega) (by decide), fun p hp => ?_⟩
    have es : Txt.split (S (wordOf q)) (S [47]) = [numL q.num.toNat, numL q.den].map S := by
      rw [SX.split_S (by decide) (by decide), word_split]
    rw [es]
    have sp := same_new (u := .lst (List.map V.str (List.map S [numL q.num.toNat, numL q.den]))) hp
    have ep : (upd H p (.lst (List.map V.str (List.map S [numL q.num.toNat, numL q.den])))) p = some (.lst [.str (S (numL q.num.toNat)), .str (S (numL q.den))]) := upd_same
    generalize upd H p (.lst (List.map V.str (List.map S [numL q.num.toNat, numL q.den]))) = H1 at sp ep
    refine ⟨_, rfl, p, _, rfl, .inl (SqL.of ep), rfl, _, rfl, ifF rfl ?_⟩
    refine ⟨_, rfl, p, _, _, _, rfl, rfl, SqL.of ep, rfl, numL q.num.toNat, rfl, num_ok hq.2.1, ?_⟩
    refine ⟨_, rfl, p, _, _, _, rfl, rfl, SqL.of ep, rfl, numL q.den, rfl, num_ok hq.2.2, ?_⟩
    rw [numL_val, numL_val]
    have dp := den_pos q
    refine ⟨_, rfl, rfl, _, rfl, ifF (by rw [dec_int]; simpa using q.den_nz) ?_⟩
    refine ⟨_, rfl, _, rfl, q.num.toNat, q.den, rfl, rfl, _, rfl, ?_⟩
    have e1 : q.num.natAbs = q.num.toNat := by have := hq.1; omega
    have g1 : Nat.gcd q.num.toNat q.den = 1 := by
      rw [← e1]
      exact q.reduced
    rw [g1]
    refine ifF rfl ?_
    refine ⟨_, rfl, _, rfl, (by show 2 ≤ sizeLine; decide), fun t ht => ?_⟩
    have e2 : ((q.num.toNat : Nat) : Int) = q.num := by have := hq.1; omega
    exact k t _ (sp.trans (same_new ht)) (rat_new (congrArg V.int e2) rfl)

theorem sc_read : FnScope ["text", "walls", "field", "word"] ["text"] (defScope s_read) := ⟨rfl, rfl, rfl, by decide +kernel, rfl, by decide +kernel, by decide +kernel⟩
theorem ok_read (D : Df K mg "read" s_read) (B : Bt mg) (g_part_of : Gd CX0 P w K mg base 2 "part_of" ["word"] (spPart K)) (TF : FTx K mg) (gI : InitOk P w K mg base) : Gd CX0 P w K mg base 3 "read" ["text"] (spRead K) := by
  obtain ⟨fI, fdI, FI, MI, bI⟩ := gI
  refine gd_of D sc_read (fun _ _ _ _ _ _ us hl => match us, hl with | [_], _ => rfl) (fun vs H Q E h => ?_) (fun f cdv A outer s H vs Q E hr h => ?_)
  · obtain ⟨ws, rfl, _⟩ := h
    rfl
  · obtain ⟨ws, rfl, h1, h8, hw, hu, k⟩ := h
    refine ⟨_, PSs.nox (pss_cons (ps_setLc (i := 1) (own := [("word", 3)]) (g := (gName 3)) (tt := tYes) rfl sc_read.nd rfl rfl (sw_true rfl rfl rfl (by decide +kernel)) (pi_list (pe_split (pv 0) pe_str)) (blkOk_by (own := [("word", 3)]) (N := ["text", "walls", "field", "word"]) (sc := defScope s_read) (by decide +kernel)) (fun _ _ _ _ _ => (pg_name (i := 3) sc_read.nd rfl (Or.inl rfl))) (fun _ _ _ _ _ => pts_nil) (fun _ _ _ _ _ => (pe_gd g_part_of hr (pa_cons (pv 3) pa_nil))))
      (pss_cons (ps_try_thru0 (pss_one (ps_set (i := 2) sc_read.nd rfl (Or.inl rfl) (pe_make MI FI (hr.mono (by decide)) rfl TF.gF bI .nil pass0 (pa_cons (pv 1) pa_nil)))))
      (pss_one (ps_ret (pv 2))))), ?_⟩
    have hl : (textOf ws).length ≤ 8 * 26 := by
      have z := joinL_len [32] (n := 25) (l := ws.map wordOf) fun p hp => by
        obtain ⟨q, hq, rfl⟩ := List.mem_map.mp hp
        exact word_len (hw q hq)
      rw [List.length_map] at z
      have z2 : ([32] : List Nat).length = 1 := rfl
      rw [z2] at z
      exact Nat.le_trans z (by omega)
    refine ⟨_, rfl, ⟨_, rfl⟩, S (textOf ws), S [32], rfl, congrArg (fun z => [V.str z]) sSp, rfl, by rw [S_len]; exact Nat.le_trans (show (textOf ws).length + 2 ≤ 1000 by omega) (by decide), fun p hp => ?_⟩
    have es : Txt.split (S (textOf ws)) (S [32]) = (ws.map wordOf).map S := by
      rw [SX.split_S (by decide) (by decide), text_split (List.length_pos_iff.mp h1)]
    rw [es]
    have sp := same_new (u := .lst (((ws.map wordOf).map S).map V.str)) hp
    have ep : (upd H p (.lst (((ws.map wordOf).map S).map V.str))) p = some (.lst (((ws.map wordOf).map S).map V.str)) := upd_same
    generalize upd H p (.lst (((ws.map wordOf).map S).map V.str)) = H1 at sp ep
    refine ⟨p, rfl, ⟨_, SqL.of ep⟩, fun D hD => ?_⟩
    refine lc_list (K := K) (a := p) (xs := ((ws.map wordOf).map S).map V.str) (fun i H' => Same H1 H' ∧ RL K H' D (ws.take i)) ⟨same_new hD, RL.new hD Rats.nil⟩ (fun i H' _ ⟨s3, _⟩ => SqL.of (s3 _ _ ep)) ?_ ?_
    · rintro i v H2 hi ⟨s2, r2⟩
      rw [List.getElem?_map, List.getElem?_map, List.getElem?_map] at hi
      have hil : i < ws.length := by
        cases e : ws[i]? with
        | none =>
          rw [e] at hi
          cases hi
        | some q => exact (List.getElem?_eq_some_iff.mp e).1
      have e1 : ws[i]? = some ws[i] := List.getElem?_eq_getElem hil
      rw [e1] at hi
      cases hi
      refine ⟨rfl, yesQ (ifT rfl ?_)⟩
      refine ⟨_, rfl, ws[i], rfl, hw _ (List.getElem_mem hil), fun t H3 s3 r3 => ?_⟩
      obtain ⟨acc, ea, ra⟩ := r2.same s3
      refine ⟨acc, ea, small1000 (by rw [ra.1, List.length_take]; omega), same_but (s2.trans s3) hD (fun b hb => upd_ne hb), ?_⟩
      rw [List.take_succ, e1]
      exact RL.upd ea (ra.push r3)
    · rintro H2 ⟨s2, r2⟩
      rw [List.length_map, List.length_map, List.length_map, List.take_length] at r2
      refine ⟨_, rfl, nI (make_field r2 h1 h8 hu fun x m H3 nx nm s3 F3 => ?_)⟩
      have s0 := sp.trans s2
      exact ⟨_, rfl, k x m H3 (s0.free nx) (s0.trans s3) F3⟩

theorem sc_law : FnScope ["script", "sides", "bottom", "due", "k", "text"] ["script"] (defScope s_law) := ⟨rfl, rfl, rfl, by decide +kernel, rfl, by decide +kernel, by decide +kernel⟩
theorem ok_law (B : Bt mg) (g_law_sides : Gd CX0 P w K mg base 3 "_law_sides" ["script", "first", "most"] (spSides K)) (g_law_cell_at : Gd CX0 P w K mg base 1 "_law_cell_at" ["script", "k"] (spCellAt K)) (g_law_low : Gd CX0 P w K mg base 1 "_law_low" ["top", "bottom"] (spLow K)) (g_law_parts : Gd CX0 P w K mg base 2 "_law_parts" ["found", "due"] (spParts K)) (g_shown : Gd CX0 P w K mg base 2 "shown" ["field"] (spShown K)) (g_read : Gd CX0 P w K mg base 3 "read" ["text"] (spRead K)) (TF : FTx K mg) (gI : InitOk P w K mg base) (gW : WallsOk P w K mg base) : Gf CX0 P w K mg base 7 "law" s_law ["script"] (spLaw K) := by
  obtain ⟨fI, fdI, FI, MI, bI⟩ := gI
  obtain ⟨fW, fdW, FW, MW, bW⟩ := gW
  refine gf_of sc_law (fun vs H Q E h => ?_) (fun f cdv A outer s H vs Q E hr h => ?_)
  · obtain ⟨a, ns, rfl, _⟩ := h
    rfl
  · obtain ⟨a, ns, rfl, hS, hn, k⟩ := h
    refine ⟨_, PSs.nox (pss_cons (ps_set (i := 1) sc_law.nd rfl (Or.inl rfl) (pe_gd g_law_sides hr (pa_cons (pv 0) (pa_cons pe_int (pa_cons pe_int pa_nil)))))
      (C8.pss_cut (ps_if (pt_cmpR op_eq (pe_op op_mod (pe_gd g_law_cell_at hr (pa_cons (pv 0) (pa_cons pe_int pa_nil))) pe_int) pe_int (nomark _)) (pss_cons (ps_set (i := 2) sc_law.nd rfl (Or.inl rfl) (pe_op op_add pe_int (pe_op op_mod (pe_op op_fdiv (pe_gd g_law_cell_at hr (pa_cons (pv 0) (pa_cons pe_int pa_nil))) pe_int) pe_int))) (pss_one (ps_asg (pe_gd g_law_low hr (pa_cons (pe_op op_mod (pe_gd g_law_cell_at hr (pa_cons (pv 0) (pa_cons pe_int pa_nil))) (pe_op op_add (pv 2) pe_int)) (pa_cons (pv 2) pa_nil))) (pg_sub (pv 1) (pe_op op_mod (pe_gd g_law_cell_at hr (pa_cons (pv 0) (pa_cons pe_int pa_nil))) (pe_callB call_len_seq (by rfl) B.len (by decide +kernel) (pa_cons (pv 1) pa_nil))) set_list)))) pss_nil)
      (pss_cons (ps_set (i := 3) sc_law.nd rfl (Or.inl rfl) pe_str)
      (pss_cons (ps_for PassesOwn.never rfl (pi_range1 (by rfl) B.range (pa_cons (pe_callB call_len_seq (by rfl) B.len (by decide +kernel) (pa_cons (pv 1) pa_nil)) pa_nil)) (pg_name (i := 4) sc_law.nd rfl (Or.inl rfl)) (pss_cons (ps_if (pt_cmpR op_gt (pv 4) pe_int (nomark _)) (pss_one (ps_set (i := 3) sc_law.nd rfl (Or.inl rfl) (pe_op op_add_str (pv 3) pe_str))) pss_nil) (pss_one (ps_set (i := 3) sc_law.nd rfl (Or.inl rfl) (pe_op op_add_str (pe_op op_add_str (pe_op op_add_str (pv 3) (pe_callTy call_str_int (by rfl) B.str (by decide +kernel) (pa_cons (pe_ix ix_tup (pe_ix ix_list (pv 1) (pv 4) (fun _ _ => rfl)) pe_int (fun _ _ => rfl)) pa_nil))) pe_str) (pe_callTy call_str_int (by rfl) B.str (by decide +kernel) (pa_cons (pe_ix ix_tup (pe_ix ix_list (pv 1) (pv 4) (fun _ _ => rfl)) pe_int (fun _ _ => rfl)) pa_nil)))))))
      (pss_cons (ps_set (i := 5) sc_law.nd rfl (Or.inl rfl) (pe_gd g_shown hr (pa_cons (pe_make MI FI (hr.mono (by decide)) rfl TF.gF bI .nil pass0 (pa_cons (pe_callTy call_list_of (by rfl) B.list (by decide +kernel) (pa_cons (pv 1) pa_nil)) pa_nil)) pa_nil)))
      (pss_one (ps_ret (pe_and (pe_callB call_isi (by rfl) B.isi (by decide +kernel) (pa_cons (pv 5) (pa_cons (pe_bltn (v := .ty "str") (by rfl) B.str (by decide +kernel) rfl) pa_nil))) (pe_and (pe_cmpR op_eq (pv 5) (pv 3) (nomark _)) (pe_one (pe_gd g_law_parts hr (pa_cons (pe_meth0 (pe_gd g_read hr (pa_cons (pv 3) pa_nil)) TF.cl MW FW (hr.mono (by decide)) bW .nil pass0) (pa_cons (pv 1) pa_nil))))))))))))), ?_⟩
    -- sides
    refine ⟨_, rfl, a, ns, 0, 8, rfl, hS.1, by decide, by decide, fun l H1 s1 nl rl => ?_⟩
    have hg := sides_good ns 0 8
    have hlen := sides_len ns 0 (most := 8) (by decide)
    generalize sidesOf ns 0 8 = ws at rl hg hlen
    have h5 : ws.length ≤ 8 := by omega
    have hS1 := hS.kt (kt_of s1)
    have wr1 : ∀ q ∈ ws, In01 q ∧ Wr q := fun q hq => by
      obtain ⟨a1, a2⟩ := hg.all q hq
      have b := bd_of (n := 6) (by decide) (by decide) a2 a1.neg1 a1.2
      have u := unit_in a1
      have b1 := b.1
      have b2 := b.2
      exact ⟨a1, u.1, by omega, by omega⟩
    refine ⟨fun σ' H' => ∃ (us : List Rat) (bv : Option V), σ' = [some (.ref a), some (.ref l), bv, none, none, none] ∧ RL K H' l us ∧ 1 ≤ us.length ∧ us.length ≤ 8 ∧ (∀ q ∈ us, In01 q ∧ Wr q), ?_, ?_⟩
    · refine ⟨_, rfl, a, ns, 10, rfl, hS1, _, _, rfl, rfl, (by show (0 : Int) < 4; decide), rfl, _, rfl, ?_⟩
      refine ifB (fun hq => ?_) (fun hq => ?_)
      · refine ⟨_, rfl, a, ns, 10, rfl, hS1, _, _, rfl, rfl, ⟨by decide, by decide⟩, _, _, rfl, rfl, (by show (0 : Int) < 999999999999; decide), _, _, rfl, rfl, ?_⟩
        have c0 : 0 ≤ cellAt ns 10 / 4 % 999999999999 := Int.emod_nonneg _ (by decide)
        have c1 : cellAt ns 10 / 4 % 999999999999 < 999999999999 := Int.emod_lt_of_pos _ (by decide)
        obtain ⟨b, eb⟩ := Int.eq_ofNat_of_zero_le (show 0 ≤ 1 + cellAt ns 10 / 4 % 999999999999 by omega)
        dsimp only
        rw [eb]
        refine ⟨_, rfl, a, ns, 12, rfl, hS1, _, rfl, _, _, rfl, rfl, _, _, rfl, rfl, (by show (0 : Int) < (b : Int) + 1; omega), ?_⟩
        have d0 : 0 ≤ cellAt ns 12 % ((b : Int) + 1) := Int.emod_nonneg _ (by omega)
        have d1 : cellAt ns 12 % ((b : Int) + 1) < (b : Int) + 1 := Int.emod_lt_of_pos _ (by omega)
        have b40 : b < 10 ^ 12 := by omega
        refine ⟨_, rfl, _, b, rfl, by omega, Nat.lt_of_lt_of_le (Nat.lt_trans b40 (show 10 ^ 12 < 2 ^ 40 by decide)) (Nat.pow_le_pow_right (by decide) (by decide)), fun r H2 s2 hr => ?_⟩
        have hS2 := s2.seq hS1
        have rl2 := rl.same s2
        obtain ⟨xs, ex, rx⟩ := id rl2
        refine ⟨_, rfl, _, rfl, a, ns, 11, rfl, hS2, _, rfl, l, xs, rfl, .inl (SqL.of ex), _, _, rfl, rfl, (by show (0 : Int) < (xs.length : Int); rw [rx.1]; omega), ?_⟩
        have i0 : 0 ≤ cellAt ns 11 % (xs.length : Int) := Int.emod_nonneg _ (by rw [rx.1]; omega)
        have i1 : cellAt ns 11 % (xs.length : Int) < (xs.length : Int) := Int.emod_lt_of_pos _ (by rw [rx.1]; omega)
        obtain ⟨i, ei⟩ := Int.eq_ofNat_of_zero_le i0
        refine ixs (i := i) rl2 (by rw [← rx.1]; omega) ei hr fun H3 k3 o3 rl3 => ?_
        refine ⟨_, _, rfl, rl3, by rw [List.length_set]; exact hlen.1, by rw [List.length_set]; exact h5, fun q hq3 => ?_⟩
        rcases List.mem_or_eq_of_mem_set hq3 with h | h
        · exact wr1 q h
        · rw [h]
          have hq1 : In01 (mkRat (cellAt ns 12 % ((b : Int) + 1)) b) := in01_mk (by omega) d0 (by omega)
          have u := unit_in hq1
          have dl := mk_den_le (t := cellAt ns 12 % ((b : Int) + 1)) (b := b) (by omega)
          exact ⟨hq1, u.1, by omega, by omega⟩
      · exact ⟨ws, none, rfl, rl, hlen.1, h5, wr1⟩
    clear rl hg hlen h5 wr1 hS1 s1 nl
    rintro σ' H1 ⟨us, bv, rfl, rl, h1, h8, hw⟩
    have wr : ∀ q ∈ us, Wr q := fun q hq => (hw q hq).2
    have uu : Unit1 us := fun q hq => unit_in (hw q hq).1
    obtain ⟨xs, ex, rx⟩ := id rl
    -- due
    refine ⟨_, rfl, l, xs, rfl, .inl (SqL.of ex), ?_⟩
    refine ⟨_, rfl, by rw [rx.1]; omega, by rw [rx.1]; omega, ?_⟩
    rw [rx.1, Int.toNat_natCast]
    refine for_range (lo := 0) (n := us.length) (fun i σ H' => H' = H1 ∧ ∃ kv : Option V, σ = [some (.ref a), some (.ref l), bv, some (.str (S (textOf (us.take i)))), kv, none]) ⟨rfl, none, congrArg (fun z => [some (V.ref a), some (.ref l), bv, some (V.str z), none, none]) sE⟩ ?_ ?_
    · rintro i σ H' hi ⟨rfl, kv, rfl⟩
      have e1 : us[i]? = some us[i] := List.getElem?_eq_getElem hi
      have wq := wr us[i] (List.getElem_mem hi)
      have lN : (Str.ofString (toString us[i].num)).length ≤ 12 := by
        rw [show_num wq.1, S_len]
        exact numL_len (k := 12) (by decide) wq.2.1
      have lD : (Str.ofString (toString ((us[i].den : Nat) : Int))).length ≤ 12 := by
        rw [num_S, S_len]
        exact numL_len (k := 12) (by decide) wq.2.2
      have lS : (Str.ofString "/").length ≤ 1 := by
        rw [sSl]
        decide
      have lW : (Str.ofString " ").length ≤ 1 := by
        rw [sSp]
        decide
      have lt : (S (textOf (us.take i))).length ≤ 26 * i := by
        have z := text_len (ws := us.take i) fun q hq => wr q (List.mem_of_mem_take hq)
        rw [List.length_take, Nat.min_eq_left (Nat.le_of_lt hi)] at z
        rw [S_len]
        omega
      have et : us.take (i + 1) = us.take i ++ [us[i]] := by rw [List.take_succ, e1]; rfl
      by_cases h0 : 0 < i
      · have ne : us.take i ≠ [] := fun z => by
          have := congrArg List.length z
          rw [List.length_take, Nat.min_eq_left (Nat.le_of_lt hi)] at this
          have z0 : ([] : List Rat).length = 0 := rfl
          omega
        refine ⟨_, rfl, _, _, rfl, rfl, _, rfl, ifT (decide_eq_true (by omega)) ⟨_, rfl, _, _, rfl, rfl, cat_ok lt lW (by omega), ?_⟩⟩
        refine ⟨_, rfl, _, rfl, _, rfl, ixr rl e1 (by omega) fun v hv => ?_⟩
        obtain ⟨tv, rfl, ht⟩ := hv
        refine ⟨tv, _, _, .int _, rfl, rfl, ht, rfl, _, rfl, log_small wq.1 wq.2.1, _, _, rfl, rfl, cat_ok (cat_len lt lW) lN (by omega), ?_⟩
        refine ⟨_, _, rfl, rfl, cat_ok (cat_len (cat_len lt lW) lN) lS (by omega), ?_⟩
        refine ⟨_, rfl, _, rfl, ixr rl e1 (by omega) fun v2 hv2 => ?_⟩
        obtain ⟨tv2, rfl, ht2⟩ := hv2
        refine ⟨tv2, _, _, .int _, rfl, rfl, ht2, rfl, _, rfl, log_small (by omega) (by rw [Int.toNat_natCast]; exact wq.2.2), _, _, rfl, rfl, cat_ok (cat_len (cat_len (cat_len lt lW) lN) lS) lD (by omega), ?_⟩
        refine ⟨rfl, _, congrArg (fun z => [some (V.ref a), some (.ref l), bv, some (V.str z), _, none]) ?_⟩
        rw [show_num wq.1, sSp, sSl, num_S, et, text_push _ ne]
        simp only [S_cat, List.append_assoc]
        rfl
      · have e0 : i = 0 := by omega
        subst e0
        refine ⟨_, rfl, _, _, rfl, rfl, _, rfl, ifF (decide_eq_false (by omega)) ?_⟩
        refine ⟨_, rfl, _, rfl, _, rfl, ixr rl e1 (by omega) fun v hv => ?_⟩
        obtain ⟨tv, rfl, ht⟩ := hv
        refine ⟨tv, _, _, .int _, rfl, rfl, ht, rfl, _, rfl, log_small wq.1 wq.2.1, _, _, rfl, rfl, cat_ok lt lN (by omega), ?_⟩
        refine ⟨_, _, rfl, rfl, cat_ok (cat_len lt lN) lS (by omega), ?_⟩
        refine ⟨_, rfl, _, rfl, ixr rl e1 (by omega) fun v2 hv2 => ?_⟩
        obtain ⟨tv2, rfl, ht2⟩ := hv2
        refine ⟨tv2, _, _, .int _, rfl, rfl, ht2, rfl, _, rfl, log_small (by omega) (by rw [Int.toNat_natCast]; exact wq.2.2), _, _, rfl, rfl, cat_ok (cat_len (cat_len lt lN) lS) lD (by omega), ?_⟩
        refine ⟨rfl, _, congrArg (fun z => [some (V.ref a), some (.ref l), bv, some (V.str z), _, none]) ?_⟩
        rw [show_num wq.1, sSl, num_S, et]
        simp only [S_cat, List.append_assoc]
        rfl
    · rintro σ H2 ⟨rfl, kv, rfl⟩
      rw [List.take_length]
      refine ⟨_, rfl, l, xs, rfl, .inl (SqL.of ex), fun lc hlc => ?_⟩
      refine nI (make_field (RL.new hlc rx) h1 h8 uu fun x px H3 nx npx s3 F3 => ?_)
      refine ⟨x, px, us, rfl, F3, h8, wr, fun H4 s4 => ?_⟩
      have s24 := ((same_new (u := .lst xs) hlc).trans s3).trans s4
      refine ⟨_, rfl, _, _, _, _, true, rfl, .ty _, .base (.str _), kit_ty (by decide +kernel), true, rfl, ifT rfl ?_⟩
      refine ⟨_, rfl, _, rfl, rfl, true, congrArg V.bl (decide_eq_true rfl), ifT rfl ?_⟩
      refine ⟨_, rfl, us, rfl, h1, h8, wr, uu, fun p m H5 np s5 F5 => ask_walls F5 (by omega) fun w2 H6 nw s6 rw2 => ?_⟩
      refine ⟨_, rfl, w2, l, us, us, rfl, rw2, ((rl.same s24).same s5).same s6, by omega, ?_⟩
      rw [decide_eq_true rfl]
      exact k _

end
def fnL : List He.DefD := [dfD "_law_low" s_law_low, dfD "_law_side" s_law_side, dfD "_law_cell_at" s_law_cell_at, dfD "_law_sides" s_law_sides, dfD "_law_whole" s_law_whole, dfD "_law_parts" s_law_parts, dfD "shown" s_shown, dfD "number_of" s_number_of, dfD "common" s_common, dfD "part_of" s_part_of, dfD "read" s_read, dfD "law" s_law, mtD "Field" "__init__" "Field.__init__" s_Field_init, mtD "Field" "walls" "Field.walls" s_Field_walls]
def faL : List He.Fa := btFa ++ [.glo "_law_low", .glo "_law_side", .glo "_law_cell_at", .glo "_law_sides", .glo "_law_whole", .glo "_law_parts", .glo "shown", .glo "number_of", .glo "common", .glo "part_of", .glo "read", .glo "law", .glo "Field", .cls "Field", .noat "Field" "parts", .meth "Field" "walls", .mkr "Field", .str "FIGURES" "0123456789"]
def xbL (K : PySem.W.Frag) : Bool := true
abbrev rowL : PySem.W.OpenRow := PySem.W.OpenLaw.row PySem.Challenge.rw_echofield_k11_written
abbrev hkL : PySem.W.Hook := hookX 5 faL fnL xbL
def obL (s : PySem.W.SharedT) : AlX := obsXG 5 faL fnL xbL (HandSHeadRun.getT s)
theorem obL_eq (s : PySem.W.SharedT) : obL s = hkL.obs s.abs := obsXG_eq (HandSHeadRun.getT_eq s)
def looseL : List Str := (["EchoError", "NoField", "BadText", "Field", "common", "shown", "number_of", "part_of", "read", "_law_cell_at", "_law_whole", "_law_low", "_law_plus", "_law_times", "_law_less", "_law_parts", "_law_side", "_law_sides", "FIGURES"] : List Str)
theorem runL (w : World) : HandSHeadRun.RunEq rowL (PySem.W.view rowL.prog [24]) hkL obL 3000 looseL w := by
  intro os
  kernel_rfl
theorem lawL {P : Program} {w : World} {K : PySem.W.Frag} {h : Heap} {mg : Str → Option Value} (X : K.In h) (G : h.Ns mainGlobals mg) (c : SaysX faL fnL xbL K) (base : Heap) : Gf CX0 P w K mg base 7 "law" s_law ["script"] (spLaw K) := by
  have B : Bt mg := bt_of c X G
  have fG := He.str_ok X G (c.d.fact 27 (f := .str "FIGURES" "0123456789") rfl)
  have TF : FTx K mg := ftx_of c X G 22
  have gI : InitOk P w K mg base := by
    obtain ⟨fd, F⟩ := c.d.def_ 12 (d := mtD "Field" "__init__" "Field.__init__" s_Field_init) rfl
    exact ⟨_, fd, ok_Field_init F B TF, He.mkr_ok (c.d.fact 26 (f := .mkr "Field") rfl), F.bindsN fun _ _ _ _ _ _ us hl => match us, hl with | [_, _], _ => rfl⟩
  have gW : WallsOk P w K mg base := by
    obtain ⟨fd, F⟩ := c.d.def_ 13 (d := mtD "Field" "walls" "Field.walls" s_Field_walls) rfl
    exact ⟨_, fd, ok_Field_walls F B TF, He.meth_ok (c.d.fact 25 (f := .meth "Field" "walls") rfl), F.bindsN fun _ _ _ _ _ _ us hl => match us, hl with | [_], _ => rfl⟩
  have g_law_low := ok_law_low (P := P) (w := w) (base := base) (df_of c X G 0 10 (x := "_law_low") (st := s_law_low)) B
  have g_law_side := ok_law_side (P := P) (w := w) (base := base) (df_of c X G 1 11 (x := "_law_side") (st := s_law_side)) B g_law_low
  have g_law_cell_at := ok_law_cell_at (P := P) (w := w) (base := base) (df_of c X G 2 12 (x := "_law_cell_at") (st := s_law_cell_at)) B
  have g_law_sides := ok_law_sides (P := P) (w := w) (base := base) (df_of c X G 3 13 (x := "_law_sides") (st := s_law_sides)) B g_law_side g_law_cell_at
  have g_law_whole := ok_law_whole (P := P) (w := w) (base := base) (df_of c X G 4 14 (x := "_law_whole") (st := s_law_whole)) B
  have g_law_parts := ok_law_parts (P := P) (w := w) (base := base) (df_of c X G 5 15 (x := "_law_parts") (st := s_law_parts)) B g_law_whole
  have g_shown := ok_shown (P := P) (w := w) (base := base) (df_of c X G 6 16 (x := "shown") (st := s_shown)) B TF gW
  have g_number_of := ok_number_of (P := P) (w := w) (base := base) (df_of c X G 7 17 (x := "number_of") (st := s_number_of)) B fG
  have g_common := ok_common (P := P) (w := w) (base := base) (df_of c X G 8 18 (x := "common") (st := s_common)) B
  have g_part_of := ok_part_of (P := P) (w := w) (base := base) (df_of c X G 9 19 (x := "part_of") (st := s_part_of)) B g_number_of g_common
  have g_read := ok_read (P := P) (w := w) (base := base) (df_of c X G 10 20 (x := "read") (st := s_read)) B g_part_of TF gI
  exact ok_law B g_law_sides g_law_cell_at g_law_low g_law_parts g_shown g_read TF gI gW
theorem factsL {P : Program} {w : World} {K : PySem.W.Frag} {h : Heap} {mg : Str → Option Value} {f : Addr} (X : K.In h) (G : h.Ns mainGlobals mg) (hfa : mg ("law" : Str) = some (.ref f)) (c : SaysX faL fnL xbL K) :
    ∃ fd : FuncData, (∀ (s : Shared) (v : Value), BindsTo s fd ⟨[v], []⟩ [("script", v)]) ∧ ∀ base : Heap, K.In base → base.Ns mainGlobals mg → FnOk P w K mg base CX0 7 f fd ["script"] (spLaw K) := by
  obtain ⟨fd, F⟩ := c.d.def_ 11 (d := dfD "law" s_law) rfl
  have b := FunD.bindsA (ps := ["script"]) F fun _ _ _ _ _ _ us hl => match us, hl with | [_], _ => rfl
  have e := hfa.symm.trans (He.glo_ok X G (c.d.fact 21 (f := .glo "law") rfl))
  cases e
  exact ⟨fd, fun s v => b s [v] rfl, fun base _ _ => lawL X G c base _ fd F⟩
end Ef
open PySem PySem.W PySem.Calls PyProof.Rows
set_option maxHeartbeats 0
theorem PySem.Challenge.cw_echofield_k11_written_holds : PySem.Challenge.rw_echofield_k11_written.Holds := by
  w_on; o_law
  refine HandSHeadRun.head_any (r := OpenLaw.row PySem.Challenge.rw_echofield_k11_written) (q := view (OpenLaw.row PySem.Challenge.rw_echofield_k11_written).prog [24]) (H := Ef.hkL) (ob := Ef.obL) (M := 3000) (loose := Ef.looseL) (d := HandSHeadRun.topDef (OpenLaw.row PySem.Challenge.rw_echofield_k11_written).prog 24) (kwd := []) Ef.obL_eq
    (by kernel_rfl) (fun s => by kernel_rfl) Ef.runL (by kernel_rfl) (by kernel_rfl) (by kernel_rfl) (by rfl) (by first | assumption | decide +kernel) (by decide +kernel) ⟨rfl, rfl, rfl, rfl, rfl, by decide +kernel⟩ ?hw ?hc
  case hw => w_witness2
  case hc =>
    refine L2.walk_ofE (l := PySem.Challenge.rw_echofield_k11_written) (n := 63) (k := 7) (x := "script") (CX := L2.CX0) rfl (by decide) (by kernel_rfl) ⟨rfl, by decide, by decide⟩ ?F (fun _ _ _ _ z => z)
    intro w mg fa h Y G hmg0
    obtain ⟨K, KX, c⟩ := Y
    have hmg : mg ("law" : PySem.Str) = some (.ref fa) := by
      have e : (HandSHeadRun.topDef (OpenLaw.row PySem.Challenge.rw_echofield_k11_written).prog 24).name = ("law" : PySem.Str) := by kernel_rfl
      rw [← e]
      exact hmg0
    obtain ⟨fd, hb, hF⟩ := Ef.factsL (P := (PySem.Challenge.rw_echofield_k11_written).prog) (w := w) KX G hmg c
    exact ⟨K, fd, Ef.spLaw K, KX, hb, fun H a ns hl hO hS => ⟨a, ns, rfl, Ef.scr_of hO hS, hl, fun _ => rfl⟩, hF⟩
#print axioms PySem.Challenge.cw_echofield_k11_written_holds
