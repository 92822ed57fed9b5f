import PyProof.Rows.All
import Wide.All
import OpenK.AllK
import Wide.FinOn
import HandS.Base
import HandS.Call
import HandS.List
import HandS.Comp
import HandS.Ends
import HandS.Words
import HandS.WordsList
import HandS.Iter
import HandS.Text
import HandS.Codes
import PyProof.StrBlock2
import HandS.Wide
import HandS.IsInst
import HandS.Defaults
import HandS.Head0
import HandS.Head1
import HandS.Head2
import HandS.HeadEnd
import HandS.HeadHook1
import HandS.HeadHook2
import HandS.Rev
import HandS.Deep
import HandS.Exc
import HandS.ExcOwn
import HandS.ExcCtx
import HandS.ExcIs
import HandS.WordsExc
import HandS.HotCalls
import PySem.Challenge.RW_echofield_k10_no_records
set_option Elab.async false
set_option linter.all false
set_option maxRecDepth 100000
set_option maxHeartbeats 4000000

namespace Ef
/-! Fractions: what the two halves of a tuple in lowest terms are worth. -/
theorem gcd_comm_pos {t : Int} {b : Nat} : b.gcd t.natAbs = t.natAbs.gcd b := Nat.gcd_comm _ _
theorem num_mk {t : Int} {b : Nat} (hb : b ≠ 0) : (mkRat t b).num = t / ((t.natAbs.gcd b : Nat) : Int) := by
  rw [Rat.num_mkRat, if_neg hb, Nat.gcd_comm]
theorem den_mk {t : Int} {b : Nat} (hb : b ≠ 0) : (mkRat t b).den = b / (t.natAbs.gcd b) := by
  rw [Rat.den_mkRat, if_neg hb, Nat.gcd_comm]
theorem sum_mk (p q : Rat) : mkRat (p.num * q.den + q.num * p.den) (p.den * q.den) = p + q := (Rat.add_def' p q).symm
theorem dif_mk (p q : Rat) : mkRat (p.num * q.den - q.num * p.den) (p.den * q.den) = p - q := (Rat.sub_def' p q).symm
theorem mul_mk (p q : Rat) : mkRat (p.num * q.num) (p.den * q.den) = p * q := (Rat.mul_def' p q).symm
theorem over_mk (p q : Rat) : Rat.divInt (p.num * q.den) (p.den * q.num) = p / q := by
  have h := Rat.divInt_mul_divInt p.num q.den (d₁ := p.den) (d₂ := q.num)
  rw [← h, Rat.num_divInt_den, ← Rat.inv_divInt, Rat.num_divInt_den, Rat.div_def]
theorem den_pos (q : Rat) : 0 < q.den := Nat.pos_of_ne_zero q.den_nz
theorem den_posI (q : Rat) : (0 : Int) < (q.den : Int) := Int.natCast_pos.mpr (den_pos q)
/-- small: both halves below the line -/
def Sm (q : Rat) : Prop := q.num.natAbs < 2 ^ 4500 ∧ q.den < 2 ^ 4500
theorem divInt_pos {t b : Int} (h : 0 < b) : Rat.divInt t b = mkRat t b.toNat := by
  obtain ⟨n, rfl⟩ := Int.eq_ofNat_of_zero_le (Int.le_of_lt h)
  rw [Rat.divInt_ofNat]; rfl
theorem divInt_neg {t b : Int} (h : b < 0) : Rat.divInt t b = Rat.divInt (0 - t) (0 - b) := by
  rw [Int.zero_sub, Int.zero_sub, Rat.neg_divInt_neg]
theorem mk_den_le {t : Int} {b : Nat} (hb : b ≠ 0) : (mkRat t b).den ≤ b := by
  rw [den_mk hb]
  exact Nat.div_le_self _ _
theorem mk_num_le {t : Int} {b : Nat} (hb : b ≠ 0) : (mkRat t b).num.natAbs ≤ t.natAbs := by
  rw [num_mk hb]
  have h : ((t.natAbs.gcd b : Nat) : Int) ∣ t := Int.ofNat_dvd_left.mpr (Nat.gcd_dvd_left _ _)
  rw [Int.natAbs_ediv_of_dvd h, Int.natAbs_natCast]
  exact Nat.div_le_self _ _
theorem sm_mk {t : Int} {b : Nat} (hb : b ≠ 0) (h1 : t.natAbs < 2 ^ 4500) (h2 : b < 2 ^ 4500) : Sm (mkRat t b) :=
  ⟨Nat.lt_of_le_of_lt (mk_num_le hb) h1, Nat.lt_of_le_of_lt (mk_den_le hb) h2⟩
end Ef
namespace Ef
open PySem PySem.Spec PyProof.Rows L2
/-! ### fractions in the heap -/
/-- a thing that is never changed -/
def fixO : HO → Bool
  | .lst _ => false
  | .ins _ _ _ => false
  | _ => true
/-- all but lists and instances is as it was -/
def Kt (H H' : Hp) : Prop := ∀ b o, H b = some o → fixO o = true → H' b = some o
theorem Kt.refl (H : Hp) : Kt H H := fun _ _ h _ => h
theorem Kt.trans {H H1 H2 : Hp} (a : Kt H H1) (b : Kt H1 H2) : Kt H H2 := fun c o h z => b c o (a c o h z) z
theorem kt_of {H H' : Hp} (s : Same H H') : Kt H H' := fun b o h _ => s b o h
theorem Kt.set {H : Hp} {l : Addr} {xs ys : List V} (h : H l = some (.lst xs)) : Kt H (upd H l (.lst ys)) := fun b o e z => by
  have nb : b ≠ l := fun q => by
    rw [q, h] at e
    cases Option.some.inj e
    cases z
  rw [upd_ne nb]
  exact e
theorem Kt.obj {H : Hp} {p C dx : Addr} {fs : List (Str × V)} {u : HO} (h : H p = some (.ins C dx fs)) : Kt H (upd H p u) := fun b o e z => by
  have nb : b ≠ p := fun q => by
    rw [q, h] at e
    cases Option.some.inj e
    cases z
  rw [upd_ne nb]
  exact e
theorem Kt.new {H : Hp} {l : Addr} {u : HO} (h : H l = none) : Kt H (upd H l u) := fun b o e _ => by
  rw [upd_ne (ne_of_none e h)]
  exact e
theorem same_new {H : Hp} {l : Addr} {u : HO} (h : H l = none) : Same H (upd H l u) := fun b o e => by
  rw [upd_ne (ne_of_none e h)]
  exact e
theorem Kt.tup {K : PySem.W.Frag} {H H' : Hp} (k : Kt H H') {a : Addr} {xs : List V} (h : SqT K H a xs) : SqT K H' a xs := by
  rcases h with (h | ⟨o, h⟩) | h
  · exact .inl (.inl (k _ _ h rfl))
  · exact .inl (.inr ⟨o, k _ _ h rfl⟩)
  · exact .inr h
/-- at v stands the fraction q in lowest terms -/
def RatAt (K : PySem.W.Frag) (H : Hp) (v : V) (q : Rat) : Prop := ∃ a, v = .ref a ∧ SqT K H a [.int q.num, .int (q.den : Int)]
theorem RatAt.kt {K : PySem.W.Frag} {H H' : Hp} (k : Kt H H') {v : V} {q : Rat} (h : RatAt K H v q) : RatAt K H' v q := by
  obtain ⟨a, e, t⟩ := h
  exact ⟨a, e, k.tup t⟩
theorem RatAt.same {K : PySem.W.Frag} {H H' : Hp} (k : Same H H') {v : V} {q : Rat} (h : RatAt K H v q) : RatAt K H' v q := h.kt (kt_of k)
/-! ### own rules -/
section
variable {X : Cx}
/-- the top, the bottom of the fraction in slot i -/
def tNum (K : PySem.W.Frag) (i : Nat) : TE := fun σ H Q => ∃ v q, σ[i]? = some (some v) ∧ RatAt K H v q ∧ Q (.int q.num) H
def tDen (K : PySem.W.Frag) (i : Nat) : TE := fun σ H Q => ∃ v q, σ[i]? = some (some v) ∧ RatAt K H v q ∧ Q (.int (q.den : Int)) H
theorem pe_num (i : Nat) {x : Str} {p p2 pos : Pos} {j : Nat} (hN : X.N[i]? = some x := by rfl) (hv : Vis X.env.scope x := by first | exact Or.inl rfl | exact Or.inr (Or.inl rfl) | exact Or.inr (Or.inr rfl)) (hd : (x == ("__debug__" : Str)) = false := by decide)
    (hcd : (x == ("__classdict__" : Str)) = false := by decide) : PE X (.Subscript (.Name x p) (.Constant (.int 0) j p2) pos) (tNum X.K i) := by
  refine ⟨fun pins s σ H Q I h => (pe_ix ix_tup (pe_var hN hv hd hcd) pe_int (fun _ _ => rfl)).run pins s σ H Q I ?_⟩
  obtain ⟨v, q, e, ⟨a, rfl, t⟩, h⟩ := h
  exact ⟨_, e, a, _, _, _, rfl, rfl, t, rfl, h⟩
theorem pe_den (i : Nat) {x : Str} {p p2 pos : Pos} {j : Nat} (hN : X.N[i]? = some x := by rfl) (hv : Vis X.env.scope x := by first | exact Or.inl rfl | exact Or.inr (Or.inl rfl) | exact Or.inr (Or.inr rfl)) (hd : (x == ("__debug__" : Str)) = false := by decide)
    (hcd : (x == ("__classdict__" : Str)) = false := by decide) : PE X (.Subscript (.Name x p) (.Constant (.int 1) j p2) pos) (tDen X.K i) := by
  refine ⟨fun pins s σ H Q I h => (pe_ix ix_tup (pe_var hN hv hd hcd) pe_int (fun _ _ => rfl)).run pins s σ H Q I ?_⟩
  obtain ⟨v, q, e, ⟨a, rfl, t⟩, h⟩ := h
  exact ⟨_, e, a, _, _, _, rfl, rfl, t, rfl, h⟩
end
theorem ifT {c : Bool} {A B : Prop} (hc : c = true) (h : A) : if c = true then A else B := by
  rw [if_pos hc]
  exact h
theorem ifF {c : Bool} {A B : Prop} (hc : c = false) (h : B) : if c = true then A else B := by
  rw [hc, if_neg Bool.false_ne_true]
  exact h
theorem if2 {c A B : Prop} [Decidable c] (h1 : c → A) (h2 : ¬ c → B) : if decide c = true then A else B := by
  by_cases h : c
  · exact ifT (decide_eq_true h) (h1 h)
  · exact ifF (decide_eq_false h) (h2 h)
theorem ifB {c : Bool} {A B : Prop} (h1 : c = true → A) (h2 : c = false → B) : if c = true then A else B := by
  cases c with
  | true => exact ifT rfl (h1 rfl)
  | false => exact ifF rfl (h2 rfl)
/-! ### promises of the reckoning -/
/-- common: of two numbers not below nought -/
def spCommon : Sp := fun vs H Q _ => ∃ a b : Nat, vs = [.int a, .int b] ∧ Q (.int (Nat.gcd a b : Nat)) H
/-- fraction: the bottom not nought and below a line -/
def spFraction (K : PySem.W.Frag) : Sp := fun vs H Q _ => ∃ t b : Int, vs = [.int t, .int b] ∧ b ≠ 0 ∧ b.natAbs < 2 ^ 9000 ∧ ∀ p H', Same H H' → RatAt K H' (.ref p) (Rat.divInt t b) → Q (.ref p) H'
/-- the same, the bottom above nought -/
def spLow (K : PySem.W.Frag) : Sp := fun vs H Q _ => ∃ (t : Int) (b : Nat), vs = [.int t, .int b] ∧ b ≠ 0 ∧ b < 2 ^ 9000 ∧ ∀ p H', Same H H' → RatAt K H' (.ref p) (mkRat t b) → Q (.ref p) H'
/-- an operation of two small fractions -/
def spOp2 (K : PySem.W.Frag) (f : Rat → Rat → Rat) : Sp := fun vs H Q _ => ∃ u v p q, vs = [u, v] ∧ RatAt K H u p ∧ RatAt K H v q ∧ Sm p ∧ Sm q ∧ ∀ r H', Same H H' → RatAt K H' (.ref r) (f p q) → Q (.ref r) H'
def spOver (K : PySem.W.Frag) : Sp := fun vs H Q _ => ∃ u v p q, vs = [u, v] ∧ RatAt K H u p ∧ RatAt K H v q ∧ Sm p ∧ Sm q ∧ q ≠ 0 ∧ ∀ r H', Same H H' → RatAt K H' (.ref r) (p / q) → Q (.ref r) H'
theorem sm_mul {a b : Nat} (ha : a < 2 ^ 4500) (hb : b < 2 ^ 4500) : a * b < 2 ^ 9000 := by
  have h : a * b < 2 ^ 4500 * 2 ^ 4500 := Nat.mul_lt_mul'' ha hb
  have e : (2 : Nat) ^ 4500 * 2 ^ 4500 = 2 ^ 9000 := (Nat.pow_add 2 4500 4500).symm
  rw [e] at h
  exact h
theorem cm {i j : Int} (ha : i.natAbs < 2 ^ 4500) (hb : j.natAbs < 2 ^ 4500) : CMulW i j := wide_mul ha hb (by decide) (by decide) (by decide)
theorem natAbs_den (q : Rat) : ((q.den : Int)).natAbs = q.den := Int.natAbs_natCast _
theorem gcd_pos_of {a b : Nat} (hb : b ≠ 0) : 0 < Nat.gcd a b := Nat.gcd_pos_of_pos_right _ (Nat.pos_of_ne_zero hb)
theorem gcd_lt_of {a b n : Nat} (hb : b ≠ 0) (h : b < n) : Nat.gcd a b < n := Nat.lt_of_le_of_lt (Nat.le_of_dvd (Nat.pos_of_ne_zero hb) (Nat.gcd_dvd_right a b)) h
theorem rat_new {K : PySem.W.Frag} {H : Hp} {p : Addr} {q : Rat} {x y : V} (ex : x = .int q.num) (ey : y = .int (q.den : Int)) : RatAt K (upd H p (.tup [x, y])) (.ref p) q := ⟨p, rfl, by rw [ex, ey]; exact SqT.of upd_same⟩
/-! ### lists of fractions -/
def Rats (K : PySem.W.Frag) (H : Hp) (xs : List V) (qs : List Rat) : Prop := xs.length = qs.length ∧ ∀ (i : Nat) (v : V) (q : Rat), xs[i]? = some v → qs[i]? = some q → RatAt K H v q
def RL (K : PySem.W.Frag) (H : Hp) (l : Addr) (qs : List Rat) : Prop := ∃ xs, H l = some (.lst xs) ∧ Rats K H xs qs
section
variable {K : PySem.W.Frag} {H H' : Hp} {xs ys : List V} {qs ps : List Rat} {l : Addr}
theorem Rats.kt (k : Kt H H') (h : Rats K H xs qs) : Rats K H' xs qs := ⟨h.1, fun i v q a b => (h.2 i v q a b).kt k⟩
theorem Rats.nil : Rats K H [] [] := ⟨rfl, fun i v q a _ => by simp at a⟩
theorem Rats.get (h : Rats K H xs qs) {i : Nat} {q : Rat} (e : qs[i]? = some q) : ∃ v, xs[i]? = some v ∧ RatAt K H v q := by
  have hi : i < qs.length := (List.getElem?_eq_some_iff.mp e).1
  have hx : i < xs.length := by rw [h.1]; exact hi
  exact ⟨xs[i], List.getElem?_eq_getElem hx, h.2 i _ q (List.getElem?_eq_getElem hx) e⟩
theorem Rats.set (h : Rats K H xs qs) {i : Nat} {v : V} {q : Rat} (r : RatAt K H v q) : Rats K H (xs.set i v) (qs.set i q) := by
  refine ⟨by rw [List.length_set, List.length_set, h.1], fun j u p a b => ?_⟩
  rw [List.getElem?_set] at a b
  by_cases e : i = j
  · rw [if_pos e] at a b
    split at a
    · split at b
      · cases a
        cases b
        exact r
      · cases b
    · cases a
  · rw [if_neg e] at a b
    exact h.2 j u p a b
theorem Rats.append (h : Rats K H xs qs) (h2 : Rats K H ys ps) : Rats K H (xs ++ ys) (qs ++ ps) := by
  refine ⟨by rw [List.length_append, List.length_append, h.1, h2.1], fun j u p a b => ?_⟩
  rw [List.getElem?_append] at a b
  rw [h.1] at a
  split at a
  · rename_i hj
    rw [if_pos hj] at b
    exact h.2 j u p a b
  · rename_i hj
    rw [if_neg hj] at b
    exact h2.2 _ u p a b
theorem Rats.one {v : V} {q : Rat} (r : RatAt K H v q) : Rats K H [v] [q] := ⟨rfl, fun i u p a b => by
  cases i with
  | zero =>
    cases (Option.some.inj a)
    cases (Option.some.inj b)
    exact r
  | succ i => simp at a⟩
theorem Rats.push (h : Rats K H xs qs) {v : V} {q : Rat} (r : RatAt K H v q) : Rats K H (xs ++ [v]) (qs ++ [q]) := h.append (Rats.one r)
theorem Rats.cons {v : V} {q : Rat} (r : RatAt K H v q) (h : Rats K H xs qs) : Rats K H (v :: xs) (q :: qs) := (Rats.one r).append h
theorem RL.same (k : Same H H') (h : RL K H l qs) : RL K H' l qs := by
  obtain ⟨xs, e, r⟩ := h
  exact ⟨xs, k _ _ e, r.kt (kt_of k)⟩
theorem RL.kt (k : Kt H H') (h : RL K H l qs) (hl : H' l = H l) : RL K H' l qs := by
  obtain ⟨xs, e, r⟩ := h
  exact ⟨xs, hl.trans e, r.kt k⟩
theorem RL.new {p : Addr} (hp : H p = none) (r : Rats K H xs qs) : RL K (upd H p (.lst xs)) p qs := ⟨xs, upd_same, r.kt (Kt.new hp)⟩
theorem RL.upd {xs0 : List V} (h : H l = some (.lst xs0)) (r : Rats K H xs qs) : RL K (upd H l (.lst xs)) l qs := ⟨xs, upd_same, r.kt (Kt.set h)⟩
/-- an item read -/
theorem ixr {Q : VK} {z : Int} {k : Nat} {q : Rat} (h : RL K H l qs) (hq : qs[k]? = some q) (hz : z = (k : Int)) (hQ : ∀ v, RatAt K H v q → Q v H) : rIxL K (.ref l) (.int z) H Q := by
  obtain ⟨xs, e, r⟩ := h
  obtain ⟨v, e2, rv⟩ := r.get hq
  exact ⟨l, xs, z, v, rfl, rfl, SqL.of e, at_of hz e2, hQ v rv⟩
/-- the data of a fraction, of a list of them -/
def dRat (q : Rat) : PyData := .tuple [.int q.num, .int (q.den : Int)]
def dRats (qs : List Rat) : PyData := .list (qs.map dRat)
theorem RatAt.dp {v : V} {q : Rat} (h : RatAt K H v q) : Dp K H v (dRat q) := by
  obtain ⟨a, rfl, t⟩ := h
  exact .tup t (.cons (.int _) (.cons (.int _) .nil))
theorem Rats.dp : ∀ {xs : List V} {qs : List Rat}, Rats K H xs qs → DpAll K H xs (qs.map dRat)
  | [], [], _ => .nil
  | [], _ :: _, h => by cases h.1
  | _ :: _, [], h => by cases h.1
  | v :: xs, q :: qs, h => .cons (h.2 0 v q rfl rfl).dp (Rats.dp ⟨Nat.succ.inj h.1, fun i u p a b => h.2 (i + 1) u p a b⟩)
theorem RL.dp (h : RL K H l qs) : Dp K H (.ref l) (dRats qs) := by
  obtain ⟨xs, e, r⟩ := h
  exact .lst (SqL.of e) r.dp
theorem rat_ext {p q : Rat} (h1 : p.num = q.num) (h2 : (p.den : Int) = (q.den : Int)) : p = q := Rat.ext h1 (Int.ofNat.inj h2)
theorem eqv_rat (p q : Rat) : PyData.eqv (dRat p) (dRat q) = decide (p = q) := by
  show ((p.num == q.num) && (((p.den : Int) == (q.den : Int)) && true)) = decide (p = q)
  rw [Bool.and_true]
  by_cases e : p = q
  · subst e
    simp
  · rw [decide_eq_false e]
    refine Bool.eq_false_iff.mpr fun z => e ?_
    obtain ⟨z1, z2⟩ := Bool.and_eq_true_iff.mp z
    exact rat_ext (eq_of_beq z1) (eq_of_beq z2)
theorem eqv_all : ∀ (ps qs : List Rat), PyData.eqvAll (ps.map dRat) (qs.map dRat) = decide (ps = qs)
  | [], [] => rfl
  | [], _ :: _ => rfl
  | _ :: _, [] => rfl
  | p :: ps, q :: qs => by
    show (PyData.eqv (dRat p) (dRat q) && PyData.eqvAll (ps.map dRat) (qs.map dRat)) = _
    rw [eqv_rat, eqv_all ps qs]
    by_cases e : p = q
    · subst e
      by_cases e2 : ps = qs
      · subst e2
        simp
      · simp [e2]
    · simp [e]
theorem eqv_rats (ps qs : List Rat) : PyData.eqv (dRats ps) (dRats qs) = decide (ps = qs) := eqv_all ps qs
theorem sh_rat (q : Rat) : SeqAt.shaped (dRat q) = true := by rfl
end
end Ef
namespace Ef
open PySem PySem.Spec PyProof.Rows L2
theorem can_rats : ∀ qs : List Rat, PyData.canLayAll0 (qs.map dRat) = true
  | [] => rfl
  | q :: qs => by
    show (PyData.canLay0 (dRat q) && PyData.canLayAll0 (qs.map dRat)) = true
    rw [can_rats qs]
    rfl
theorem dep_rats : ∀ qs : List Rat, PyData.depthAll (qs.map dRat) ≤ 1
  | [] => by decide
  | q :: qs => by
    show max (PyData.depth (dRat q)) (PyData.depthAll (qs.map dRat)) ≤ 1
    have h1 : PyData.depth (dRat q) = 1 := rfl
    have h2 := dep_rats qs
    rw [h1]
    omega
theorem sh_rats (qs : List Rat) : SeqAt.shaped (dRats qs) = true := by
  have h1 : PyData.canLay0 (dRats qs) = true := can_rats qs
  have h2 : PyData.depth (dRats qs) ≤ 64 := by
    show PyData.depthAll (qs.map dRat) + 1 ≤ 64
    have := dep_rats qs
    omega
  show (PyData.canLay0 (dRats qs) && decide (PyData.depth (dRats qs) ≤ 64)) = true
  rw [h1, decide_eq_true h2]
  rfl
/-! ### defs by name -/
abbrev FnP (K : PySem.W.Frag) (x q : Str) (st : Stmt) (f : Addr) (fd : FuncData) : Prop := FunD K x q (defArgs st) (defBody st) (defScope st) [] [] f fd
/-- the def x of the module stands as the statement st -/
def Df (K : PySem.W.Frag) (mg : Str → Option Value) (x : Str) (st : Stmt) : Prop := ∃ f fd, FnP K x x st f fd ∧ mg x = some (.ref f)
/-- the def x of the module keeps the promise sp -/
def Gd (CX : CXT) (P : Program) (w : World) (K : PySem.W.Frag) (mg : Str → Option Value) (base : Heap) (k : Nat) (x : Str) (ps : List Str) (sp : Sp) : Prop :=
  ∃ f fd, FnOk P w K mg base CX k f fd ps sp ∧ mg x = some (.ref f) ∧ PySem.W.keepIn K (.ref f) = true ∧ Binds K fd ps []
section
variable {CX : CXT} {P : Program} {w : World} {K : PySem.W.Frag} {mg : Str → Option Value} {base : Heap} {x : Str} {st : Stmt} {N ps : List Str} {k : Nat} {sp : Sp}
def Gf (CX : CXT) (P : Program) (w : World) (K : PySem.W.Frag) (mg : Str → Option Value) (base : Heap) (k : Nat) (x : Str) (st : Stmt) (ps : List Str) (sp : Sp) : Prop := ∀ f fd, FnP K x x st f fd → FnOk P w K mg base CX k f fd ps sp
theorem gf_of (S : FnScope N ps (defScope st)) (len : ∀ vs H Q E, sp vs H Q E → vs.length = ps.length)
    (body : ∀ (f : Addr) (cdv : Value) (A : Around) (outer : List Env) (s : Shared) (H : Hp) (vs : List V) (Q : VK) (E : XK), Room k (A.deeper (envOfC x (defScope st) s.heap.objs.size f cdv)) → sp vs H Q E →
      ∃ t, PSs (cxOf CX P w K mg base N x (defScope st) f cdv A outer s H E) (defBody st) t ∧ t { nx := fun _ H' => Q .non H', rt := Q } (start N vs) H) : Gf CX P w K mg base (k + 1) x st ps sp :=
  fun f _ F => F.ok S len (body f)
theorem gd_of (D : Df K mg x st) (S : FnScope N ps (defScope st))
    (hb : ∀ (kV doc pm : Value) (an : Option Addr) (cdv ct : Value) (us : List Value), us.length = ps.length → bindArgs (PySem.W.fnOf x x (defArgs st) (defBody st) (defScope st) .none kV doc pm an cdv ct) ⟨us, []⟩ = pure (ps.zip us))
    (len : ∀ vs H Q E, sp vs H Q E → vs.length = ps.length)
    (body : ∀ (f : Addr) (cdv : Value) (A : Around) (outer : List Env) (s : Shared) (H : Hp) (vs : List V) (Q : VK) (E : XK), Room k (A.deeper (envOfC x (defScope st) s.heap.objs.size f cdv)) → sp vs H Q E →
      ∃ t, PSs (cxOf CX P w K mg base N x (defScope st) f cdv A outer s H E) (defBody st) t ∧ t { nx := fun _ H' => Q .non H', rt := Q } (start N vs) H) : Gd CX P w K mg base (k + 1) x ps sp := by
  obtain ⟨f, fd, F, g⟩ := D
  exact ⟨f, fd, gf_of S len body f fd F, g, F.kp, F.bindsN hb⟩
end
section
variable {X : Cx} {k j : Nat} {x : Str} {ps : List Str} {sp : Sp} {e : Expr} {es : List Expr} {t : TA} {p pos : Pos}
/-- f(e, ..) -/
theorem pe_gd (G : Gd CX0 X.prog X.w X.K X.mg X.base j x ps sp) (hr : Room k X.A) (ha : PA X (e :: es) t) (hjk : j ≤ k := by decide) (hg : Gl X x := by rfl) (hdb : (x == ("__debug__" : Str)) = false := by decide)
    (he : starEach (e :: es) X.env = (false, eval e X.env) :: starEach es X.env := by rfl) (hpl : (backTo pos (starEach es X.env)).any (·.1) = false := by rfl) :
    PE X (.Call (.Name x p) (e :: es) [] pos) (tCall sp [] E0 t) := by
  obtain ⟨f, fd, F, g, kp, b⟩ := G
  exact pe_call F (hr.mono hjk) hg g kp b .nil pass0 ha hdb he hpl
end
end Ef
namespace Ef
open PySem PySem.Spec PyProof.Rows L2
/-! ### facts for the walks of the reckoning -/
theorem abs_int (t : Int) : (if t < 0 then -t else t) = ((t.natAbs : Nat) : Int) := by split <;> omega
theorem low_facts (t b' : Int) (n : Nat) (eb : b' = (n : Int)) (hn : n ≠ 0) (hl : n < 2 ^ 9000) :
    CDivW t (Nat.gcd t.natAbs n : Nat) ∧ CDivW b' (Nat.gcd t.natAbs n : Nat) ∧ t / ((Nat.gcd t.natAbs n : Nat) : Int) = (mkRat t n).num ∧ b' / ((Nat.gcd t.natAbs n : Nat) : Int) = ((mkRat t n).den : Int) := by
  subst eb
  have g1 : 0 < Nat.gcd t.natAbs n := gcd_pos_of hn
  have g2 : Nat.gcd t.natAbs n < 2 ^ 9000 := gcd_lt_of hn hl
  have g3 : ((Nat.gcd t.natAbs n : Nat) : Int).natAbs < 2 ^ 9000 := by rw [Int.natAbs_natCast]; exact g2
  refine ⟨wide_div (by omega) g3 (by decide) (by decide), wide_div (by omega) g3 (by decide) (by decide), (num_mk hn).symm, ?_⟩
  rw [den_mk hn, Int.natCast_ediv]
theorem den_mul_facts {p q : Rat} (p2 : p.den < 2 ^ 4500) (q2 : q.den < 2 ^ 4500) :
    (p.den : Int) * (q.den : Int) ≠ 0 ∧ ((p.den : Int) * (q.den : Int)).natAbs < 2 ^ 9000 ∧ ∀ t : Int, Rat.divInt t ((p.den : Int) * (q.den : Int)) = mkRat t (p.den * q.den) := by
  have e : (p.den : Int) * (q.den : Int) = ((p.den * q.den : Nat) : Int) := (Int.natCast_mul _ _).symm
  refine ⟨?_, ?_, fun t => ?_⟩
  · exact Int.ne_of_gt (Int.mul_pos (den_posI p) (den_posI q))
  · rw [e, Int.natAbs_natCast]
    exact sm_mul p2 q2
  · rw [e, Rat.divInt_ofNat]
theorem den_num_facts {p q : Rat} (p2 : p.den < 2 ^ 4500) (q1 : q.num.natAbs < 2 ^ 4500) (hq : q ≠ 0) :
    (p.den : Int) * q.num ≠ 0 ∧ ((p.den : Int) * q.num).natAbs < 2 ^ 9000 := by
  have h0 : q.num ≠ 0 := fun z => hq (Rat.num_eq_zero.mp z)
  have h1 : (p.den : Int) ≠ 0 := Int.ne_of_gt (den_posI p)
  refine ⟨fun z => (Int.mul_eq_zero.mp z).elim h1 h0, ?_⟩
  rw [Int.natAbs_mul, Int.natAbs_natCast]
  exact sm_mul p2 q1
theorem den_args (t : Int) (p q : Rat) : [V.int t, V.int ((p.den : Int) * (q.den : Int))] ++ [] = [V.int t, V.int ((p.den * q.den : Nat) : Int)] := by
  rw [Int.natCast_mul]
  rfl
theorem deqT {x y : Int} (h : decide (V.int x = V.int y) = true) : x = y := V.int.inj (of_decide_eq_true h)
theorem deqF {x y : Int} (h : decide (V.int x = V.int y) = false) : x ≠ y := fun z => of_decide_eq_false h (congrArg V.int z)
/-! ### the built-in names that no module binds -/
structure Bt (mg : Str → Option Value) : Prop where
  len : mg "len" = none
  abs : mg "abs" = none
  range : mg "range" = none
  isi : mg "isinstance" = none
  int : mg "int" = none
  bool : mg "bool" = none
  list : mg "list" = none
  tuple : mg "tuple" = none
  str : mg "str" = none
  rev : mg "reversed" = none
/-! ### the law's own helpers -/
/-- the script: read, never changed -/
def Scr (K : PySem.W.Frag) (H : Hp) (a : Addr) (ns : List Int) : Prop := SqL K H a (ns.map V.int) ∧ ∀ xs, H a ≠ some (.lst xs)
theorem Scr.kt {K : PySem.W.Frag} {H H' : Hp} {a : Addr} {ns : List Int} (k : Kt H H') (h : Scr K H a ns) : SqL K H' a (ns.map V.int) := by
  obtain ⟨h1, h2⟩ := h
  rcases h1 with (h | ⟨o, h⟩) | h
  · exact absurd h (h2 _)
  · exact .inl (.inr ⟨o, k _ _ h rfl⟩)
  · exact .inr h
def cellAt (ns : List Int) (k : Nat) : Int := ns.getD k 0
def spCellAt (K : PySem.W.Frag) : Sp := fun vs H Q _ => ∃ (a : Addr) (ns : List Int) (k : Nat), vs = [.ref a, .int (k : Int)] ∧ SqL K H a (ns.map V.int) ∧ Q (.int (cellAt ns k)) H
def spWhole : Sp := fun vs H Q _ => ∃ i : Int, vs = [.int i] ∧ Q (.bl true) H
/-- 0 - other, laid as a tuple -/
theorem neg_new {K : PySem.W.Frag} {H : Hp} {p : Addr} {q : Rat} : RatAt K (upd H p (.tup [.int (0 - q.num), .int (q.den : Int)])) (.ref p) (-q) := rat_new (by rw [Rat.neg_num, Int.zero_sub]) (by rw [Rat.neg_den])
theorem sm_neg {q : Rat} (h : Sm q) : Sm (-q) := ⟨by rw [Rat.neg_num, Int.natAbs_neg]; exact h.1, h.2⟩
/-- two lists of fractions are the same -/
def spParts (K : PySem.W.Frag) : Sp := fun vs H Q _ => ∃ (l m : Addr) (qs ps : List Rat), vs = [.ref l, .ref m] ∧ RL K H l qs ∧ RL K H m ps ∧ ps.length ≤ 1000 ∧ Q (.bl (decide (qs = ps))) H
theorem tyx_tup {K : PySem.W.Frag} {H : Hp} {a : Addr} {xs : List V} (h : SqT K H a xs) : TyX K H (.ref a) (.type "tuple") := by
  rcases h with (h | ⟨o, h⟩) | ⟨o, _, _, h, c, _⟩
  · exact .base (.tup h)
  · exact .fTuple h
  · exact .kTuple h c
theorem op_mul_str {X : Cx} : OpR X (binaryOp .Mult) (fun x y H Q => ∃ z n, x = .str z ∧ y = .int n ∧ MulOk z n ∧ Q (.str (Txt.mul z n)) H) := by
  intro pins s σ H x y v u Q I rx ry h
  obtain ⟨z, n, rfl, rfl, hz, q⟩ := h
  obtain ⟨t, rfl⟩ := rx
  obtain ⟨t', rfl⟩ := ry
  exact PySem.SB.mul hz (fun t' k => ⟨.str (Txt.mul z n), H, I.tok _, ⟨_, rfl⟩, q⟩)
/-- the law: a script handed in, True comes out -/
def spLaw (K : PySem.W.Frag) : Sp := fun vs H Q _ => ∃ (a : Addr) (ns : List Int), vs = [.ref a] ∧ Scr K H a ns ∧ ns.length ≤ 63 ∧ ∀ H', Q (.bl true) H'
/-- law 1: a fraction by a number -/
def spFrac1 (K : PySem.W.Frag) : Sp := fun vs H Q _ => ∃ (c : Int), vs = [.int c] ∧ ∀ r H' q, Same H H' → Sm q → RatAt K H' (.ref r) q → Q (.ref r) H'
/-- law 1: what was told is what is due -/
def spSame (K : PySem.W.Frag) : Sp := fun vs H Q _ => ∃ (v : V) (q : Rat) (t b : Int), vs = [v, .int t, .int b] ∧ RatAt K H v q ∧ b ≠ 0 ∧ b.natAbs < 2 ^ 9000 ∧ ∀ H', Same H H' → Q (.bl (decide (q = Rat.divInt t b))) H'
/-- an item of a written list of ints at a reckoned place -/
theorem ix_ints {K : PySem.W.Frag} {H : Hp} {Q : VK} {p : Addr} {bs : List Int} {z : Int} (hp : H p = some (.lst (bs.map V.int))) (h0 : 0 ≤ z) (h1 : z < bs.length) (hQ : ∀ b ∈ bs, Q (.int b) H) : rIxL K (.ref p) (.int z) H Q := by
  obtain ⟨n, rfl⟩ := Int.eq_ofNat_of_zero_le h0
  have hn : n < bs.length := by omega
  refine ⟨p, _, _, .int bs[n], rfl, rfl, SqL.of hp, atI_nat ?_, hQ _ (List.getElem_mem hn)⟩
  rw [List.getElem?_map, List.getElem?_eq_getElem hn]
  rfl
end Ef
namespace Ef
open PySem PySem.Spec PyProof.Rows L2
/-! ### the head: facts by names, and one test of our own -/
abbrev AlX : Type := He.AlD × Bool
def obsX (fa : List He.Fa) (fn : List He.DefD) (xb : PySem.W.Frag → Bool) (K : PySem.W.Frag) : AlX := (He.obsD fa fn K, xb K)
def obsXG (n : Nat) (fa : List He.Fa) (fn : List He.DefD) (xb : PySem.W.Frag → Bool) (g : Addr → Option Obj) : AlX := obsX fa fn xb (He.frG g (He.asD g n))
def SaysX (fa : List He.Fa) (fn : List He.DefD) (xb : PySem.W.Frag → Bool) (K : PySem.W.Frag) : Prop := obsX fa fn xb K = (He.valD fn, true)
def hookX (n : Nat) (fa : List He.Fa) (fn : List He.DefD) (xb : PySem.W.Frag → Bool) : PySem.W.Hook where
  α := AlX
  obs := fun s => obsXG n fa fn xb s.heap.get?
  val := fun _ => (He.valD fn, true)
  says := fun _ h => ∃ K : PySem.W.Frag, K.In h ∧ SaysX fa fn xb K
  of := fun _ _ e => ⟨_, He.frG_in, e⟩
  keeps := fun _ _ _ ⟨K, hK, c⟩ k => ⟨K, PySem.W.Frag.In.keeps hK k, c⟩
theorem obsXG_eq {n : Nat} {fa : List He.Fa} {fn : List He.DefD} {xb : PySem.W.Frag → Bool} {g : Addr → Option Obj} {s : Shared} (h : ∀ a, g a = s.heap.get? a) : obsXG n fa fn xb g = (hookX n fa fn xb).obs s := by
  have e : g = s.heap.get? := funext h
  rw [e] <;> rfl
theorem SaysX.d {fa : List He.Fa} {fn : List He.DefD} {xb : PySem.W.Frag → Bool} {K : PySem.W.Frag} (c : SaysX fa fn xb K) : He.SaysD fa fn K := congrArg Prod.fst c
theorem SaysX.x {fa : List He.Fa} {fn : List He.DefD} {xb : PySem.W.Frag → Bool} {K : PySem.W.Frag} (c : SaysX fa fn xb K) : xb K = true := congrArg Prod.snd c
def dfD (x : Str) (st : Stmt) : He.DefD := ⟨(x, none), x, x, defArgs st, defBody st, defScope st, [], []⟩
def mtD (C m q : Str) (st : Stmt) : He.DefD := ⟨(C, some m), m, q, defArgs st, defBody st, defScope st, [], []⟩
section
variable {fa : List He.Fa} {fn : List He.DefD} {xb : PySem.W.Frag → Bool} {K : PySem.W.Frag} {h : Heap} {mg : Str → Option Value}
theorem df_of (c : SaysX fa fn xb K) (X : K.In h) (G : h.Ns mainGlobals mg) (i j : Nat) {x : Str} {st : Stmt} (hd : fn[i]? = some (dfD x st) := by rfl) (hf : fa[j]? = some (.glo x) := by rfl) : Df K mg x st := by
  obtain ⟨fd, F⟩ := c.d.def_ i hd
  exact ⟨_, fd, F, He.glo_ok X G (c.d.fact j hf)⟩
end
def btNames : List Str := ["len", "abs", "range", "isinstance", "int", "bool", "list", "tuple", "str", "reversed"]
def btFa : List He.Fa := btNames.map He.Fa.free
theorem bt_of {fn : List He.DefD} {xb : PySem.W.Frag → Bool} {K : PySem.W.Frag} {h : Heap} {mg : Str → Option Value} {fa : List He.Fa} (c : SaysX (btFa ++ fa) fn xb K) (X : K.In h) (G : h.Ns mainGlobals mg) : Bt mg :=
  ⟨He.free_ok X G (c.d.fact 0 (f := .free "len") rfl), He.free_ok X G (c.d.fact 1 (f := .free "abs") rfl), He.free_ok X G (c.d.fact 2 (f := .free "range") rfl), He.free_ok X G (c.d.fact 3 (f := .free "isinstance") rfl), He.free_ok X G (c.d.fact 4 (f := .free "int") rfl),
   He.free_ok X G (c.d.fact 5 (f := .free "bool") rfl), He.free_ok X G (c.d.fact 6 (f := .free "list") rfl), He.free_ok X G (c.d.fact 7 (f := .free "tuple") rfl), He.free_ok X G (c.d.fact 8 (f := .free "str") rfl), He.free_ok X G (c.d.fact 9 (f := .free "reversed") rfl)⟩
/-- the script as the law is handed it -/
theorem scr_of {K : PySem.W.Frag} {H : Hp} {a : Addr} {ns : List Int} (hO : Only H) (hS : SqL K H a (ns.map V.int)) : Scr K H a ns := by
  refine ⟨hS, fun xs e => ?_⟩
  rcases hO a with z | ⟨o, ys, z⟩
  · rw [e] at z
    cases z
  · rw [e] at z
    cases z
end Ef
namespace Ef
open PySem PySem.Spec PyProof.Rows L2
/-! ### the mirror of the sounds -/
/-- a row of n + 1 cells -/
def tab (n : Nat) (f : Nat → Rat) : List Rat := (List.range (n + 1)).map f
def at0 (l : List Rat) (i : Nat) : Rat := l.getD i 0
/-- what goes to the right, to the left at the next moment -/
def nR (W r l : Nat → Rat) (j : Nat) : Rat := if j = 0 then 0 else r (j - 1) * (1 - W (j - 1)) + l j * W (j - 1)
def nL (n : Nat) (W r l : Nat → Rat) (j : Nat) : Rat := if j < n then r j * W j + l (j + 1) * (1 - W j) else 0
def stt (n : Nat) (W : Nat → Rat) : Nat → (Nat → Rat) × (Nat → Rat)
  | 0 => (fun j => if j = 0 then 1 else 0, fun _ => 0)
  | t + 1 => (nR W (stt n W t).1 (stt n W t).2, nL n W (stt n W t).1 (stt n W t).2)
def goR (n : Nat) (W : Nat → Rat) (t : Nat) : Nat → Rat := (stt n W t).1
def goL (n : Nat) (W : Nat → Rat) (t : Nat) : Nat → Rat := (stt n W t).2
def ears (n : Nat) (W : Nat → Rat) (m : Nat) : List Rat := (List.range m).map fun t => goL n W t 0
def gone (n : Nat) (W : Nat → Rat) (m : Nat) : List Rat := (List.range m).map fun t => goR n W t n
/-- what a step reckons with is small -/
structure StepAt (a w b : Rat) : Prop where
  sa : Sm a
  sw : Sm w
  sb : Sm b
  aw : Sm (a * w)
  ad : Sm (a - a * w)
  bw : Sm (b * w)
  bd : Sm (b - b * w)
  w1 : Sm (1 - w)
  av : Sm (a * (1 - w))
  bv : Sm (b * (1 - w))
def StepOk (n : Nat) (W r l : Nat → Rat) : Prop := ∀ k, k < n → StepAt (r k) (W k) (l (k + 1))
def RunOk (n : Nat) (W : Nat → Rat) (m : Nat) : Prop := ∀ t, t < m → StepOk n W (goR n W t) (goL n W t)
theorem tab_len (n : Nat) (f : Nat → Rat) : (tab n f).length = n + 1 := by unfold tab; rw [List.length_map, List.length_range]
theorem tab_get {n : Nat} {f : Nat → Rat} {i : Nat} (h : i ≤ n) : (tab n f)[i]? = some (f i) := by
  unfold tab
  rw [List.getElem?_map, List.getElem?_range (by omega)]
  rfl
theorem tab_congr {n : Nat} {f g : Nat → Rat} (h : ∀ j, j ≤ n → f j = g j) : tab n f = tab n g := by
  unfold tab
  refine List.map_congr_left fun j hj => h j ?_
  have := List.mem_range.mp hj
  omega
theorem tab_set {n : Nat} {f : Nat → Rat} {i : Nat} {q : Rat} : (tab n f).set i q = tab n (fun j => if j = i then q else f j) := by
  refine List.ext_getElem? fun j => ?_
  rw [List.getElem?_set, tab_len]
  by_cases hj : j ≤ n
  · rw [tab_get hj, tab_get hj]
    by_cases e : i = j
    · rw [if_pos e, if_pos (by omega), if_pos e.symm]
    · rw [if_neg e, if_neg (fun z => e z.symm)]
  · rw [List.getElem?_eq_none (by rw [tab_len]; omega), List.getElem?_eq_none (l := tab n _) (by rw [tab_len]; omega)]
    split
    · rw [if_neg (by omega)]
    · rfl
theorem rep_tab (n : Nat) : List.replicate (n + 1) (0 : Rat) = tab n (fun _ => 0) := by
  refine List.ext_getElem? fun j => ?_
  rw [List.getElem?_replicate]
  by_cases hj : j ≤ n
  · rw [if_pos (by omega), tab_get hj]
  · rw [if_neg (by omega), List.getElem?_eq_none (by rw [tab_len]; omega)]
theorem one_tab (n : Nat) : [1] ++ List.replicate n (0 : Rat) = tab n (fun j => if j = 0 then 1 else 0) := by
  refine List.ext_getElem? fun j => ?_
  cases j with
  | zero => rw [tab_get (Nat.zero_le _)]; rfl
  | succ j =>
    rw [List.getElem?_append_right (by simp), List.getElem?_replicate]
    by_cases hj : j + 1 ≤ n
    · rw [if_pos (by simp; omega), tab_get hj, if_neg (by omega)]
    · rw [if_neg (by simp; omega), List.getElem?_eq_none (by rw [tab_len]; omega)]
theorem at0_get {ws : List Rat} {k : Nat} (h : k < ws.length) : ws[k]? = some (at0 ws k) := by
  unfold at0
  rw [List.getD_eq_getElem?_getD, List.getElem?_eq_getElem h]
  rfl
theorem ears_succ (n : Nat) (W : Nat → Rat) (m : Nat) : ears n W (m + 1) = ears n W m ++ [goL n W m 0] := by unfold ears; rw [List.range_succ, List.map_append]; rfl
theorem gone_succ (n : Nat) (W : Nat → Rat) (m : Nat) : gone n W (m + 1) = gone n W m ++ [goR n W m n] := by unfold gone; rw [List.range_succ, List.map_append]; rfl
theorem ears_len (n : Nat) (W : Nat → Rat) (m : Nat) : (ears n W m).length = m := by unfold ears; rw [List.length_map, List.length_range]
theorem gone_len (n : Nat) (W : Nat → Rat) (m : Nat) : (gone n W m).length = m := by unfold gone; rw [List.length_map, List.length_range]
/-! ### heaps once more -/
section
variable {K : PySem.W.Frag} {H0 H H' : Hp} {l : Addr} {qs : List Rat}
theorem same_but (s : Same H0 H) (h0 : H0 l = none) (hb : ∀ b, b ≠ l → H' b = H b) : Same H0 H' := fun b o e => by
  rw [hb b (ne_of_none e h0)]
  exact s b o e
/-- an item stored -/
theorem ixs {Q : Hp → Prop} {z : Int} {i : Nat} {v : V} {q : Rat} (h : RL K H l qs) (hi : i < qs.length) (hz : z = (i : Int)) (r : RatAt K H v q)
    (hQ : ∀ H', Kt H H' → (∀ b, b ≠ l → H' b = H b) → RL K H' l (qs.set i q) → Q H') : rSetL (.ref l) (.int z) v H Q := by
  obtain ⟨xs, e, rx⟩ := h
  have hx : i < xs.length := by rw [rx.1]; exact hi
  refine ⟨l, xs, z, i, rfl, rfl, e, ?_, hQ _ (Kt.set e) (fun b hb => upd_ne hb) (RL.upd e (rx.set r))⟩
  unfold ixN
  rw [if_pos (by omega), if_pos (by omega)]
  congr 1
  omega
/-- an item put behind -/
theorem ixa {Q : VK} {v : V} {q : Rat} (h : RL K H l qs) (hn : qs.length < 1000) (r : RatAt K H v q)
    (hQ : ∀ H', Kt H H' → (∀ b, b ≠ l → H' b = H b) → RL K H' l (qs ++ [q]) → Q .non H') : rAppend (.ref l) [v] H Q := by
  obtain ⟨xs, e, rx⟩ := h
  exact ⟨l, xs, v, rfl, rfl, e, Nat.lt_of_lt_of_le (by rw [rx.1]; exact hn) (by decide), hQ _ (Kt.set e) (fun b hb => upd_ne hb) (RL.upd e (rx.push r))⟩
theorem RL.len_eq (h : RL K H l qs) : ∃ xs, H l = some (.lst xs) ∧ xs.length = qs.length := by
  obtain ⟨xs, e, rx⟩ := h
  exact ⟨xs, e, rx.1⟩
theorem ty_list (h : RL K H l qs) : tyV K "list" (.ref l) H := by
  obtain ⟨xs, e, rx⟩ := h
  exact .inl ⟨rfl, _, SqL.of e⟩
end
/-- a comprehension without a test -/
theorem yesQ {σ : L2.St} {H : Hp} {Q : Bool → Hp → Prop} (h : Q true H) : tYes σ H Q := h
theorem cI {v : V} {σ : L2.St} {H : Hp} {Q : VK} (h : Q v H) : tC v σ H Q := h
theorem nI {σ : L2.St} {H : Hp} {Q : List V → Hp → Prop} (h : Q [] H) : tNil σ H Q := h
theorem Rats.rep {K : PySem.W.Frag} {H : Hp} {v : V} {q : Rat} (r : RatAt K H v q) (n : Nat) : Rats K H (List.replicate n v) (List.replicate n q) := by
  refine ⟨by rw [List.length_replicate, List.length_replicate], fun i u p a b => ?_⟩
  rw [List.getElem?_replicate] at a b
  split at a
  · rw [if_pos (by assumption)] at b
    cases Option.some.inj a
    cases Option.some.inj b
    exact r
  · cases a
theorem flat_rep (v : V) : ∀ n : Nat, (List.replicate n [v]).flatten = List.replicate n v
  | 0 => rfl
  | n + 1 => by rw [List.replicate_succ, List.flatten_cons, flat_rep v n]; rfl
/-- [x] * n, of a fraction -/
theorem ixrep {K : PySem.W.Frag} {H : Hp} {Q : VK} {p : Addr} {v : V} {q : Rat} {z : Int} {n : Nat} (hp : H p = some (.lst [v])) (r : RatAt K H v q) (hz : z = (n : Int)) (hn : n ≤ 1000)
    (hQ : ∀ D H', H D = none → Same H H' → RL K H' D (List.replicate n q) → Q (.ref D) H') : rRep (.ref p) (.int z) H Q := by
  subst hz
  refine ⟨p, _, [v], rfl, rfl, hp, by omega, by omega, ?_, fun D hD => ?_⟩
  · rw [Int.toNat_natCast, List.length_singleton, Nat.one_mul]
    exact Nat.le_trans hn (by decide)
  · rw [Int.toNat_natCast, flat_rep]
    exact hQ D _ hD (same_new hD) (RL.new hD (Rats.rep r n))
/-- a constant of the module, a fraction -/
def KonstQ (K : PySem.W.Frag) (mg : Str → Option Value) (x : Str) (q : Rat) : Prop := ∃ a, mg x = some (.ref a) ∧ ∀ H, RatAt K H (.ref a) q
/-! ### promises -/
def spStep (K : PySem.W.Frag) : Sp := fun vs H Q _ => ∃ (lw lr ll : Addr) (ws : List Rat) (r l : Nat → Rat), vs = [.ref lw, .ref lr, .ref ll] ∧ RL K H lw ws ∧ RL K H lr (tab ws.length r) ∧ RL K H ll (tab ws.length l) ∧ ws.length ≤ 8 ∧ StepOk ws.length (at0 ws) r l ∧
  ∀ (p a b : Addr) (u v : V) (H' : Hp), Same H H' → H p = none → H a = none → H b = none → a ≠ b → H' p = some (.tup [.ref a, .ref b, u, v]) → RL K H' a (tab ws.length (nR (at0 ws) r l)) → RL K H' b (tab ws.length (nL ws.length (at0 ws) r l)) → RatAt K H' u (l 0) → RatAt K H' v (r ws.length) → Q (.ref p) H'
/-- what a run told -/
structure RunAt (K : PySem.W.Frag) (H H' : Hp) (p a b e g : Addr) (ws : List Rat) (m : Nat) : Prop where
  tup : H' p = some (.tup [.ref a, .ref b, .ref e, .ref g])
  rt : RL K H' a (tab ws.length (goR ws.length (at0 ws) m))
  lf : RL K H' b (tab ws.length (goL ws.length (at0 ws) m))
  er : RL K H' e (ears ws.length (at0 ws) m)
  gn : RL K H' g (gone ws.length (at0 ws) m)
  na : H a = none
  nb : H b = none
  ne : H e = none
  ng : H g = none
  ab : a ≠ b
def spLRun (K : PySem.W.Frag) : Sp := fun vs H Q _ => ∃ (lw : Addr) (ws : List Rat) (m : Nat), vs = [.ref lw, .int (m : Int)] ∧ RL K H lw ws ∧ ws.length ≤ 8 ∧ m ≤ 40 ∧ RunOk ws.length (at0 ws) m ∧
  ∀ (p a b e g : Addr) (H' : Hp), Same H H' → RunAt K H H' p a b e g ws m → Q (.ref p) H'
/-! ### fields -/
abbrev FC (K : PySem.W.Frag) : Addr := He.ga K "Field"
def FieldAt (K : PySem.W.Frag) (H : Hp) (p l : Addr) (ws : List Rat) : Prop := (∃ dx, H p = some (.ins (FC K) dx [("parts", .ref l)])) ∧ RL K H l ws
theorem FieldAt.same {K : PySem.W.Frag} {H H' : Hp} {p l : Addr} {ws : List Rat} (k : Same H H') (h : FieldAt K H p l ws) : FieldAt K H' p l ws := by
  obtain ⟨⟨dx, e⟩, r⟩ := h
  exact ⟨⟨dx, k _ _ e⟩, r.same k⟩
structure FTx (K : PySem.W.Frag) (mg : Str → Option Value) : Prop where
  cl : Cls K (FC K)
  nP : NoAttr K (FC K) "parts"
  gF : mg "Field" = some (.ref (FC K))
def Unit1 (ws : List Rat) : Prop := ∀ q ∈ ws, 0 ≤ q.num ∧ q.num ≤ (q.den : Int)
def spInit (K : PySem.W.Frag) : Sp := fun vs H Q _ => ∃ (p l dx : Addr) (ws : List Rat), vs = [.ref p, .ref l] ∧ H p = some (.ins (FC K) dx []) ∧ RL K H l ws ∧ 1 ≤ ws.length ∧ ws.length ≤ 8 ∧ Unit1 ws ∧
  ∀ (m : Addr) (H' : Hp), H m = none → FieldAt K H' p m ws → (∀ b o, H b = some o → b ≠ p → H' b = some o) → Q .non H'
def spWalls (K : PySem.W.Frag) : Sp := fun vs H Q _ => ∃ (p l : Addr) (ws : List Rat), vs = [.ref p] ∧ FieldAt K H p l ws ∧ ws.length ≤ 1000 ∧ ∀ (m : Addr) (H' : Hp), H m = none → Same H H' → RL K H' m ws → Q (.ref m) H'
def InitOk (P : Program) (w : World) (K : PySem.W.Frag) (mg : Str → Option Value) (base : Heap) : Prop := ∃ f fd, FnOk P w K mg base CX0 1 f fd ["self", "walls"] (spInit K) ∧ Mk K (FC K) f ∧ Binds K fd ["self", "walls"] []
def WallsOk (P : Program) (w : World) (K : PySem.W.Frag) (mg : Str → Option Value) (base : Heap) : Prop := ∃ f fd, FnOk P w K mg base CX0 1 f fd ["self"] (spWalls K) ∧ Meth K (FC K) "walls" f ∧ Binds K fd ["self"] []
/-- a field made -/
theorem make_field {K : PySem.W.Frag} {H : Hp} {Q : Addr → Hp → Prop} {l : Addr} {ws : List Rat} (h : RL K H l ws) (h1 : 1 ≤ ws.length) (h8 : ws.length ≤ 8) (hu : Unit1 ws)
    (hQ : ∀ (p m : Addr) (H' : Hp), H p = none → H m = none → Same H H' → FieldAt K H' p m ws → Q p H') :
    ∀ x dx, H x = none → H dx = none → dx ≠ x → spInit K (.ref x :: ([.ref l] ++ [])) (upd (upd H dx (.own x)) x (.ins (FC K) dx [])) (fun v H2 => v = .non ∧ Q x H2) E0 := by
  intro x dx nx nd ne
  have s0 : Same H (upd (upd H dx (.own x)) x (.ins (FC K) dx [])) := fun b o e => by
    rw [upd_ne (ne_of_none e nx), upd_ne (ne_of_none e nd)]
    exact e
  refine ⟨x, l, dx, ws, rfl, upd_same, h.same s0, h1, h8, hu, fun m H' hm hf hk => ⟨rfl, hQ x m H' nx (s0.free hm) (fun b o e => hk b o (s0 b o e) (ne_of_none e nx)) hf⟩⟩
/-- its walls asked -/
theorem ask_walls {K : PySem.W.Frag} {σ : L2.St} {H : Hp} {Q : VK} {p l : Addr} {ws : List Rat} (h : FieldAt K H p l ws) (h8 : ws.length ≤ 1000)
    (hQ : ∀ (m : Addr) (H' : Hp), H m = none → Same H H' → RL K H' m ws → Q (.ref m) H') :
    ∃ a dx fs, V.ref p = .ref a ∧ H a = some (.ins (FC K) dx fs) ∧ fs.lookup ("walls" : Str) = none ∧ tNil σ H fun vs H2 => spWalls K (.ref p :: (vs ++ [])) H2 Q E0 := by
  obtain ⟨dx, e⟩ := h.1
  have ne : (("walls" : Str) == ("parts" : Str)) = false := by decide +kernel
  exact ⟨p, dx, _, rfl, e, by simp [List.lookup, ne], p, l, ws, rfl, h, h8, hQ⟩
def spRun (K : PySem.W.Frag) : Sp := fun vs H Q _ => ∃ (f l : Addr) (ws : List Rat) (m : Nat), vs = [.ref f, .int (m : Int)] ∧ FieldAt K H f l ws ∧ ws.length ≤ 8 ∧ m ≤ 40 ∧ RunOk ws.length (at0 ws) m ∧
  ∀ (p a b e g : Addr) (H' : Hp), Same H H' → RunAt K H H' p a b e g ws m → Q (.ref p) H'
def spGoing (K : PySem.W.Frag) : Sp := fun vs H Q _ => ∃ (f l : Addr) (ws : List Rat) (m : Nat), vs = [.ref f, .int (m : Int)] ∧ FieldAt K H f l ws ∧ ws.length ≤ 8 ∧ m ≤ 40 ∧ RunOk ws.length (at0 ws) m ∧
  ∀ (p a b : Addr) (H' : Hp), Same H H' → H' p = some (.tup [.ref a, .ref b]) → RL K H' a (tab ws.length (goR ws.length (at0 ws) m)) → RL K H' b (tab ws.length (goL ws.length (at0 ws) m)) → H a = none → H b = none → a ≠ b → Q (.ref p) H'
def spHeard (K : PySem.W.Frag) : Sp := fun vs H Q _ => ∃ (f l : Addr) (ws : List Rat) (m : Nat), vs = [.ref f, .int (m : Int)] ∧ FieldAt K H f l ws ∧ ws.length ≤ 8 ∧ m ≤ 40 ∧ RunOk ws.length (at0 ws) m ∧
  ∀ (e : Addr) (H' : Hp), Same H H' → H e = none → RL K H' e (ears ws.length (at0 ws) m) → Q (.ref e) H'
def spLost (K : PySem.W.Frag) : Sp := fun vs H Q _ => ∃ (f l : Addr) (ws : List Rat) (m : Nat), vs = [.ref f, .int (m : Int)] ∧ FieldAt K H f l ws ∧ ws.length ≤ 8 ∧ m ≤ 40 ∧ RunOk ws.length (at0 ws) m ∧
  ∀ (e : Addr) (H' : Hp), Same H H' → H e = none → RL K H' e (gone ws.length (at0 ws) m) → Q (.ref e) H'
/-! ### the law's sides -/
def sideOf (c : Int) : Rat := if c / 6 % 5 = 0 then mkRat (c / 30 % 2) 1 else mkRat (c / 30 % (1 + c % 6 + 1)) (1 + c % 6).toNat
def sidesOf (ns : List Int) (first : Nat) (most : Int) : List Rat := (List.range (1 + cellAt ns first % most).toNat).map fun k => sideOf (cellAt ns (first + 1 + k))
def spSide (K : PySem.W.Frag) : Sp := fun vs H Q _ => ∃ c : Int, vs = [.int c] ∧ ∀ r H', Same H H' → RatAt K H' (.ref r) (sideOf c) → Q (.ref r) H'
def spSides (K : PySem.W.Frag) : Sp := fun vs H Q _ => ∃ (a : Addr) (ns : List Int) (first : Nat) (most : Int), vs = [.ref a, .int (first : Int), .int most] ∧ SqL K H a (ns.map V.int) ∧ 0 < most ∧ most ≤ 1000 ∧ ∀ l H', Same H H' → H l = none → RL K H' l (sidesOf ns first most) → Q (.ref l) H'
/-- the law's moment -/
def momOf (c : Int) (n : Nat) : Int := if n < 3 ∧ c / 13 % 4 = 1 then c / 52 % 41 else c % 13
def spMoment (K : PySem.W.Frag) : Sp := fun vs H Q _ => ∃ (a l : Addr) (ns : List Int) (k : Nat) (ws : List Rat), vs = [.ref a, .int (k : Int), .ref l] ∧ SqL K H a (ns.map V.int) ∧ RL K H l ws ∧ Q (.int (momOf (cellAt ns k) ws.length)) H
end Ef
namespace Ef
/-! ### bottoms that divide -/
def IsD (D : Nat) (q : Rat) : Prop := ∃ z : Int, q * (D : Rat) = (z : Rat)
theorem nz_cast {D : Nat} (h : 0 < D) : (D : Rat) ≠ 0 := by
  intro z
  have h1 : ((D : Nat) : Rat).num = 0 := by rw [z]; rfl
  have h2 : ((D : Int)) = 0 := h1
  omega
theorem IsD.eq {D : Nat} {q : Rat} (hD : 0 < D) {z : Int} (h : q * (D : Rat) = (z : Rat)) : q = mkRat z D := by
  rw [Rat.mkRat_eq_div]
  have h0 := nz_cast hD
  have : ((D : Nat) : Rat) = ((D : Int) : Rat) := rfl
  grind
theorem IsD.den {D : Nat} {q : Rat} (hD : 0 < D) (h : IsD D q) : q.den ≤ D := by
  obtain ⟨z, h⟩ := h
  rw [IsD.eq hD h]
  exact mk_den_le (by omega)
theorem cast_le {a b : Int} (h : (a : Rat) ≤ (b : Rat)) : a ≤ b := by
  have := (Rat.le_iff (a : Rat) (b : Rat)).mp h
  simpa using this
theorem le_cast {a b : Int} (h : a ≤ b) : (a : Rat) ≤ (b : Rat) := by
  refine (Rat.le_iff (a : Rat) (b : Rat)).mpr ?_
  simpa using h
theorem nat_pos {D : Nat} (h : 0 < D) : (0 : Rat) < (D : Rat) := by
  refine (Rat.lt_iff 0 (D : Rat)).mpr ?_
  simpa using h
theorem IsD.num {D : Nat} {q : Rat} (hD : 0 < D) (h : IsD D q) (h0 : -1 ≤ q) (h1 : q ≤ 1) : q.num.natAbs ≤ D := by
  obtain ⟨z, h⟩ := h
  have e := IsD.eq hD h
  have b : z.natAbs ≤ D := by
    have p := nat_pos hD
    have c1 : (z : Rat) ≤ ((D : Int) : Rat) := by
      rw [← h]
      have := Rat.mul_le_mul_of_nonneg_right h1 (Rat.le_of_lt p)
      have e2 : ((D : Nat) : Rat) = ((D : Int) : Rat) := rfl
      grind
    have c2 : ((-(D : Int) : Int) : Rat) ≤ (z : Rat) := by
      rw [← h]
      have := Rat.mul_le_mul_of_nonneg_right h0 (Rat.le_of_lt p)
      have e2 : ((-(D : Int) : Int) : Rat) = -(D : Rat) := by rw [Rat.intCast_neg]; rfl
      grind
    have d1 := cast_le c1
    have d2 := cast_le c2
    omega
  rw [e]
  exact Nat.le_trans (mk_num_le (by omega)) b
theorem sm_of {D : Nat} {q : Rat} (hD : 0 < D) (hl : D < 2 ^ 4500) (h : IsD D q) (h0 : -1 ≤ q) (h1 : q ≤ 1) : Sm q :=
  ⟨Nat.lt_of_le_of_lt (h.num hD h0 h1) hl, Nat.lt_of_le_of_lt (h.den hD) hl⟩
theorem IsD.mul {D E : Nat} {p q : Rat} (hp : IsD D p) (hq : IsD E q) : IsD (D * E) (p * q) := by
  obtain ⟨a, ha⟩ := hp
  obtain ⟨b, hb⟩ := hq
  refine ⟨a * b, ?_⟩
  rw [Rat.intCast_mul, ← ha, ← hb, Rat.natCast_mul]
  grind
theorem IsD.add {D : Nat} {p q : Rat} (hp : IsD D p) (hq : IsD D q) : IsD D (p + q) := by
  obtain ⟨a, ha⟩ := hp
  obtain ⟨b, hb⟩ := hq
  refine ⟨a + b, ?_⟩
  rw [Rat.intCast_add, ← ha, ← hb]
  grind
theorem IsD.sub {D : Nat} {p q : Rat} (hp : IsD D p) (hq : IsD D q) : IsD D (p - q) := by
  obtain ⟨a, ha⟩ := hp
  obtain ⟨b, hb⟩ := hq
  refine ⟨a - b, ?_⟩
  rw [Rat.intCast_sub, ← ha, ← hb]
  grind
theorem IsD.up {D : Nat} {p : Rat} (hp : IsD D p) (E : Nat) : IsD (D * E) p := by
  obtain ⟨a, ha⟩ := hp
  refine ⟨a * E, ?_⟩
  rw [Rat.intCast_mul, ← ha, Rat.natCast_mul]
  have : (((E : Nat) : Int) : Rat) = (E : Rat) := rfl
  grind
theorem IsD.int (D : Nat) (n : Int) : IsD D (n : Rat) := ⟨n * D, by rw [Rat.intCast_mul]; rfl⟩
theorem IsD.zero (D : Nat) : IsD D 0 := IsD.int D 0
theorem IsD.one (D : Nat) : IsD D 1 := IsD.int D 1
theorem isD_mk {a : Int} {b e : Nat} (hb : 0 < b) : IsD (b * e) (mkRat a b) := by
  refine ⟨a * e, ?_⟩
  rw [Rat.mkRat_eq_div, Rat.natCast_mul, Rat.intCast_mul]
  have h0 := nz_cast hb
  have e1 : (((b : Nat) : Int) : Rat) = (b : Rat) := rfl
  have e2 : (((e : Nat) : Int) : Rat) = (e : Rat) := rfl
  grind
/-! ### between nought and one -/
def In01 (q : Rat) : Prop := 0 ≤ q ∧ q ≤ 1
theorem In01.mul {p q : Rat} (hp : In01 p) (hq : In01 q) : In01 (p * q) := by
  refine ⟨Rat.mul_nonneg hp.1 hq.1, ?_⟩
  have := Rat.mul_le_mul_of_nonneg_right hp.2 hq.1
  have := hq.2
  grind
theorem In01.co {q : Rat} (hq : In01 q) : In01 (1 - q) := by
  obtain ⟨a, b⟩ := hq
  constructor <;> grind
theorem In01.mix {a b w : Rat} (ha : In01 a) (hb : In01 b) (hw : In01 w) : In01 (a * (1 - w) + b * w) := by
  have h1 := ha.mul hw.co
  have h2 := hb.mul hw
  refine ⟨by have := h1.1; have := h2.1; grind, ?_⟩
  have := Rat.mul_le_mul_of_nonneg_right ha.2 hw.co.1
  have := Rat.mul_le_mul_of_nonneg_right hb.2 hw.1
  grind
theorem In01.neg1 {q : Rat} (h : In01 q) : -1 ≤ q := by have := h.1; grind
theorem in01_zero : In01 0 := ⟨Rat.le_refl, by decide⟩
theorem in01_one : In01 1 := ⟨by decide, Rat.le_refl⟩
theorem unit_in {q : Rat} (h : In01 q) : 0 ≤ q.num ∧ q.num ≤ (q.den : Int) := by
  refine ⟨Rat.num_nonneg.mpr h.1, ?_⟩
  have := (Rat.le_iff q 1).mp h.2
  simpa using this
theorem in_unit {q : Rat} (h : 0 ≤ q.num ∧ q.num ≤ (q.den : Int)) : In01 q := by
  refine ⟨Rat.num_nonneg.mp h.1, (Rat.le_iff q 1).mpr ?_⟩
  simpa using h.2
theorem in01_mk {a : Int} {b : Nat} (hb : 0 < b) (h0 : 0 ≤ a) (h1 : a ≤ b) : In01 (mkRat a b) := by
  rw [Rat.mkRat_eq_div]
  have p := nat_pos hb
  have e1 : (((b : Nat) : Int) : Rat) = (b : Rat) := rfl
  have c0 : (0 : Rat) ≤ (a : Rat) := le_cast h0
  have c1 : (a : Rat) ≤ (b : Rat) := by rw [← e1]; exact le_cast h1
  have q : (a : Rat) / (b : Rat) * (b : Rat) = a := Rat.div_mul_cancel (nz_cast hb)
  generalize (a : Rat) / (b : Rat) = x at q ⊢
  refine ⟨?_, ?_⟩
  · refine Rat.le_of_mul_le_mul_right (c := (b : Rat)) ?_ p
    grind
  · refine Rat.le_of_mul_le_mul_right (c := (b : Rat)) ?_ p
    grind
/-! ### what runs keeps small -/
structure Good (D n : Nat) (W : Nat → Rat) : Prop where
  dp : 0 < D
  i : ∀ k, k < n → In01 (W k)
  d : ∀ k, k < n → IsD D (W k)
theorem state_good {D n : Nat} {W : Nat → Rat} (g : Good D n W) : ∀ t j, j ≤ n → (In01 (goR n W t j) ∧ IsD (D ^ t) (goR n W t j)) ∧ (In01 (goL n W t j) ∧ IsD (D ^ t) (goL n W t j))
  | 0, j, _ => by
    refine ⟨?_, in01_zero, IsD.zero _⟩
    show In01 (if j = 0 then 1 else 0) ∧ IsD _ (if j = 0 then 1 else 0)
    split
    · exact ⟨in01_one, IsD.one _⟩
    · exact ⟨in01_zero, IsD.zero _⟩
  | t + 1, j, hj => by
    have ih := state_good g t
    refine ⟨?_, ?_⟩
    · show In01 (nR W (goR n W t) (goL n W t) j) ∧ IsD (D ^ t * D) (nR W (goR n W t) (goL n W t) j)
      unfold nR
      split
      · exact ⟨in01_zero, IsD.zero _⟩
      · have a := (ih (j - 1) (by omega)).1
        have b := (ih j hj).2
        have w := g.i (j - 1) (by omega)
        have wd := g.d (j - 1) (by omega)
        exact ⟨a.1.mix b.1 w, (a.2.mul ((IsD.one D).sub wd)).add (b.2.mul wd)⟩
    · show In01 (nL n W (goR n W t) (goL n W t) j) ∧ IsD (D ^ t * D) (nL n W (goR n W t) (goL n W t) j)
      unfold nL
      split
      · rename_i hjn
        have a := (ih j hj).1
        have b := (ih (j + 1) (by omega)).2
        have w := g.i j hjn
        have wd := g.d j hjn
        have m := b.1.mix a.1 w
        refine ⟨?_, (a.2.mul wd).add (b.2.mul ((IsD.one D).sub wd))⟩
        rw [Rat.add_comm]
        exact m
      · exact ⟨in01_zero, IsD.zero _⟩
theorem run_ok {D n m : Nat} {W : Nat → Rat} (g : Good D n W) (hb : D ^ m < 2 ^ 4500) : RunOk n W m := fun t ht k hk => by
  obtain ⟨⟨a1, a2⟩, _⟩ := state_good g t k (by omega)
  obtain ⟨_, b1, b2⟩ := state_good g t (k + 1) (by omega)
  have w := g.i k hk
  have wd := g.d k hk
  have hp : 0 < D ^ (t + 1) := Nat.pow_pos g.dp
  have hl : D ^ (t + 1) < 2 ^ 4500 := Nat.lt_of_le_of_lt (Nat.pow_le_pow_right g.dp ht) hb
  have e : D ^ (t + 1) = D ^ t * D := Nat.pow_succ ..
  have up1 : ∀ q, IsD (D ^ t) q → IsD (D ^ (t + 1)) q := fun q h => by rw [e]; exact h.up D
  have up2 : IsD (D ^ (t + 1)) (W k) := by rw [e, Nat.mul_comm]; exact wd.up _
  have aw : IsD (D ^ (t + 1)) (goR n W t k * W k) := by rw [e]; exact a2.mul wd
  have bw : IsD (D ^ (t + 1)) (goL n W t (k + 1) * W k) := by rw [e]; exact b2.mul wd
  have av : IsD (D ^ (t + 1)) (goR n W t k * (1 - W k)) := by rw [e]; exact a2.mul ((IsD.one D).sub wd)
  have bv : IsD (D ^ (t + 1)) (goL n W t (k + 1) * (1 - W k)) := by rw [e]; exact b2.mul ((IsD.one D).sub wd)
  have go : ∀ q, IsD (D ^ (t + 1)) q → In01 q → Sm q := fun q h i => sm_of hp hl h i.neg1 i.2
  have ea : goR n W t k - goR n W t k * W k = goR n W t k * (1 - W k) := by grind
  have eb : goL n W t (k + 1) - goL n W t (k + 1) * W k = goL n W t (k + 1) * (1 - W k) := by grind
  exact ⟨go _ (up1 _ a2) a1, go _ up2 w, go _ (up1 _ b2) b1, go _ aw (a1.mul w), by rw [ea]; exact go _ av (a1.mul w.co), go _ bw (b1.mul w), by rw [eb]; exact go _ bv (b1.mul w.co),
    go _ ((IsD.one _).sub up2) w.co, go _ av (a1.mul w.co), go _ bv (b1.mul w.co)⟩
/-! ### the law's sides -/
theorem side_good (c : Int) : In01 (sideOf c) ∧ IsD 60 (sideOf c) := by
  unfold sideOf
  have m0 : 0 ≤ c % 6 := Int.emod_nonneg _ (by decide)
  have m1 : c % 6 < 6 := Int.emod_lt_of_pos _ (by decide)
  split
  · have a0 : 0 ≤ c / 30 % 2 := Int.emod_nonneg _ (by decide)
    have a1 : c / 30 % 2 < 2 := Int.emod_lt_of_pos _ (by decide)
    exact ⟨in01_mk (by decide) a0 (by omega), isD_mk (b := 1) (e := 60) (by decide)⟩
  · obtain ⟨n, en⟩ := Int.eq_ofNat_of_zero_le (show 0 ≤ 1 + c % 6 by omega)
    rw [en, Int.toNat_natCast]
    have a0 : 0 ≤ c / 30 % ((n : Int) + 1) := Int.emod_nonneg _ (by omega)
    have a1 : c / 30 % ((n : Int) + 1) < (n : Int) + 1 := Int.emod_lt_of_pos _ (by omega)
    refine ⟨in01_mk (by omega) a0 (by omega), ?_⟩
    have hn : n = 1 ∨ n = 2 ∨ n = 3 ∨ n = 4 ∨ n = 5 ∨ n = 6 := by omega
    rcases hn with h | h | h | h | h | h <;> subst h
    · exact isD_mk (b := 1) (e := 60) (by decide)
    · exact isD_mk (b := 2) (e := 30) (by decide)
    · exact isD_mk (b := 3) (e := 20) (by decide)
    · exact isD_mk (b := 4) (e := 15) (by decide)
    · exact isD_mk (b := 5) (e := 12) (by decide)
    · exact isD_mk (b := 6) (e := 10) (by decide)
theorem sides_len (ns : List Int) (first : Nat) {most : Int} (h : 0 < most) : 1 ≤ (sidesOf ns first most).length ∧ ((sidesOf ns first most).length : Int) ≤ most := by
  unfold sidesOf
  rw [List.length_map, List.length_range]
  have c0 : 0 ≤ cellAt ns first % most := Int.emod_nonneg _ (by omega)
  have c1 : cellAt ns first % most < most := Int.emod_lt_of_pos _ h
  omega
/-- a list of parts -/
structure GoodL (D : Nat) (ws : List Rat) : Prop where
  dp : 0 < D
  all : ∀ q ∈ ws, In01 q ∧ IsD D q
theorem GoodL.good {D : Nat} {ws : List Rat} (h : GoodL D ws) : Good D ws.length (at0 ws) := by
  have m : ∀ k, k < ws.length → at0 ws k ∈ ws := fun k hk => List.mem_of_getElem? (at0_get hk)
  exact ⟨h.dp, fun k hk => (h.all _ (m k hk)).1, fun k hk => (h.all _ (m k hk)).2⟩
theorem GoodL.unit {D : Nat} {ws : List Rat} (h : GoodL D ws) : Unit1 ws := fun q hq => unit_in (h.all q hq).1
theorem sides_good (ns : List Int) (first : Nat) (most : Int) : GoodL 60 (sidesOf ns first most) := by
  refine ⟨by decide, fun q hq => ?_⟩
  obtain ⟨k, _, rfl⟩ := List.mem_map.mp hq
  exact side_good _
theorem mom_range (c : Int) (n : Nat) : 0 ≤ momOf c n ∧ momOf c n ≤ 40 := by
  unfold momOf
  split
  · have a0 : 0 ≤ c / 52 % 41 := Int.emod_nonneg _ (by decide)
    have a1 : c / 52 % 41 < 41 := Int.emod_lt_of_pos _ (by decide)
    omega
  · have a0 : 0 ≤ c % 13 := Int.emod_nonneg _ (by decide)
    have a1 : c % 13 < 13 := Int.emod_lt_of_pos _ (by decide)
    omega
theorem pow60 {m : Nat} (h : m ≤ 40) : 60 ^ m < 2 ^ 4500 := by
  have h1 : 60 ^ m ≤ 60 ^ 40 := Nat.pow_le_pow_right (by decide) h
  have h2 : (60 : Nat) ^ 40 < 2 ^ 250 := by decide
  exact Nat.lt_of_lt_of_le (Nat.lt_of_le_of_lt h1 h2) (Nat.pow_le_pow_right (by decide) (by decide))
end Ef
namespace Ef
open PySem PySem.Spec PyProof.Rows L2
/-! ### the head's facts of fields and constants -/
section
variable {fa : List He.Fa} {fn : List He.DefD} {xb : PySem.W.Frag → Bool} {K : PySem.W.Frag} {h : Heap} {mg : Str → Option Value}
theorem konst_of {x : Str} {q : Rat} (hf : mg x = some (.ref (He.ga K x))) (hb : He.tupB K x [.int q.num, .int (q.den : Int)] = true) : KonstQ K mg x q := ⟨He.ga K x, hf, fun H => ⟨_, rfl, He.tupB_ok hb H⟩⟩
def fieldFa : List He.Fa := [.glo "Field", .cls "Field", .noat "Field" "parts", .meth "Field" "walls", .mkr "Field"]
theorem ftx_of (c : SaysX fa fn xb K) (X : K.In h) (G : h.Ns mainGlobals mg) (j : Nat) (h0 : fa[j]? = some (.glo "Field") := by rfl) (h1 : fa[j + 1]? = some (.cls "Field") := by rfl) (h2 : fa[j + 2]? = some (.noat "Field" "parts") := by rfl) : FTx K mg :=
  ⟨He.cls_ok (c.d.fact (j + 1) h1), He.noat_ok (c.d.fact (j + 2) h2), He.glo_ok X G (c.d.fact j h0)⟩
def xbK (K : PySem.W.Frag) : Bool := He.tupB K "NOUGHT" [.int 0, .int 1] && He.tupB K "ONE" [.int 1, .int 1]
end
end Ef
namespace Ef
/-! ### sums -/
def lsum : List Rat → Rat
  | [] => 0
  | q :: r => q + lsum r
theorem lsum_app : ∀ (l r : List Rat), lsum (l ++ r) = lsum l + lsum r
  | [], r => (Rat.zero_add _).symm
  | q :: l, r => by
    show q + lsum (l ++ r) = q + lsum l + lsum r
    rw [lsum_app l r]
    grind
theorem lsum_push (l : List Rat) (q : Rat) : lsum (l ++ [q]) = lsum l + q := by
  rw [lsum_app]
  show lsum l + (q + 0) = lsum l + q
  grind
def sumTo (f : Nat → Rat) (n : Nat) : Rat := lsum ((List.range n).map f)
theorem sumTo_succ (f : Nat → Rat) (n : Nat) : sumTo f (n + 1) = sumTo f n + f n := by
  unfold sumTo
  rw [List.range_succ, List.map_append]
  exact lsum_push _ _
theorem sumTo_zero (f : Nat → Rat) : sumTo f 0 = 0 := rfl
theorem step_part (n : Nat) (W r l : Nat → Rat) : ∀ i, i ≤ n → sumTo (nR W r l) (i + 1) + sumTo (nL n W r l) i = sumTo r i + sumTo l (i + 1) - l 0
  | 0, _ => by
    rw [sumTo_succ, sumTo_succ, sumTo_zero, sumTo_zero, sumTo_zero, sumTo_zero]
    have e : nR W r l 0 = 0 := rfl
    rw [e]
    grind
  | i + 1, h => by
    have ih := step_part n W r l i (by omega)
    rw [sumTo_succ _ (i + 1), sumTo_succ (nL n W r l) i, sumTo_succ r i, sumTo_succ l (i + 1)]
    have e1 : nR W r l (i + 1) = r i * (1 - W i) + l (i + 1) * W i := by
      unfold nR
      rw [if_neg (by omega), Nat.add_sub_cancel]
    have e2 : nL n W r l i = r i * W i + l (i + 1) * (1 - W i) := by
      unfold nL
      rw [if_pos (by omega)]
    rw [e1, e2]
    grind
theorem step_sum (n : Nat) (W r l : Nat → Rat) : sumTo (nR W r l) (n + 1) + sumTo (nL n W r l) (n + 1) = sumTo r (n + 1) + sumTo l (n + 1) - r n - l 0 := by
  have h := step_part n W r l n (Nat.le_refl _)
  have e : nL n W r l n = 0 := by
    unfold nL
    rw [if_neg (by omega)]
  rw [sumTo_succ (nL n W r l) n, e, sumTo_succ r n]
  grind
theorem all_one (n : Nat) (W : Nat → Rat) : ∀ m, sumTo (goR n W m) (n + 1) + sumTo (goL n W m) (n + 1) + lsum (ears n W m) + lsum (gone n W m) = 1
  | 0 => by
    have z : ∀ (f : Nat → Rat) (k : Nat), (∀ j, 0 < j → f j = 0) → sumTo f (k + 1) = f 0 := by
      intro f k hf
      induction k with
      | zero => rw [sumTo_succ, sumTo_zero]; grind
      | succ k ih => rw [sumTo_succ, ih, hf (k + 1) (by omega)]; grind
    rw [z (goR n W 0) n (fun j hj => by show (if j = 0 then (1 : Rat) else 0) = 0; rw [if_neg (by omega)]), z (goL n W 0) n (fun j _ => rfl)]
    show (1 : Rat) + 0 + 0 + 0 = 1
    grind
  | m + 1 => by
    have ih := all_one n W m
    rw [ears_succ, gone_succ, lsum_push, lsum_push]
    have h := step_sum n W (goR n W m) (goL n W m)
    have e1 : goR n W (m + 1) = nR W (goR n W m) (goL n W m) := rfl
    have e2 : goL n W (m + 1) = nL n W (goR n W m) (goL n W m) := rfl
    rw [e1, e2]
    grind
/-! ### where nothing goes -/
theorem parity (n : Nat) (W : Nat → Rat) : ∀ t j, ((j + t) % 2 = 1 → goR n W t j = 0) ∧ ((j + t) % 2 = 0 → goL n W t j = 0)
  | 0, j => by
    refine ⟨fun h => ?_, fun _ => rfl⟩
    show (if j = 0 then (1 : Rat) else 0) = 0
    rw [if_neg (by omega)]
  | t + 1, j => by
    refine ⟨fun h => ?_, fun h => ?_⟩
    · show nR W (goR n W t) (goL n W t) j = 0
      unfold nR
      split
      · rfl
      · rw [(parity n W t (j - 1)).1 (by omega), (parity n W t j).2 (by omega)]
        grind
    · show nL n W (goR n W t) (goL n W t) j = 0
      unfold nL
      split
      · rw [(parity n W t j).1 (by omega), (parity n W t (j + 1)).2 (by omega)]
        grind
      · rfl
theorem ears_take (n : Nat) (W : Nat → Rat) {k m : Nat} (h : k ≤ m) : (ears n W m).take k = ears n W k := by
  unfold ears
  rw [← List.map_take, List.take_range, Nat.min_eq_left h]
theorem gone_take (n : Nat) (W : Nat → Rat) {k m : Nat} (h : k ≤ m) : (gone n W m).take k = gone n W k := by
  unfold gone
  rw [← List.map_take, List.take_range, Nat.min_eq_left h]
theorem ears_get (n : Nat) (W : Nat → Rat) {k m : Nat} (h : k < m) : (ears n W m)[k]? = some (goL n W k 0) := by
  unfold ears
  rw [List.getElem?_map, List.getElem?_range h]
  rfl
theorem gone_get (n : Nat) (W : Nat → Rat) {k m : Nat} (h : k < m) : (gone n W m)[k]? = some (goR n W k n) := by
  unfold gone
  rw [List.getElem?_map, List.getElem?_range h]
  rfl
/-! ### parts of a sum that comes to one -/
theorem lsum_nonneg : ∀ {l : List Rat}, (∀ q ∈ l, 0 ≤ q) → 0 ≤ lsum l
  | [], _ => Rat.le_refl
  | q :: r, h => Rat.add_nonneg (h q List.mem_cons_self) (lsum_nonneg fun p hp => h p (List.mem_cons_of_mem _ hp))
theorem lsum_isD {D : Nat} : ∀ {l : List Rat}, (∀ q ∈ l, IsD D q) → IsD D (lsum l)
  | [], _ => IsD.zero D
  | q :: r, h => (h q List.mem_cons_self).add (lsum_isD fun p hp => h p (List.mem_cons_of_mem _ hp))
/-- a list of small strengths that come to one -/
structure OneL (D : Nat) (l : List Rat) : Prop where
  dp : 0 < D
  dl : D < 2 ^ 4500
  nn : ∀ q ∈ l, 0 ≤ q
  d : ∀ q ∈ l, IsD D q
  le : lsum l ≤ 1
theorem OneL.pre {D : Nat} {l r : List Rat} (h : OneL D (l ++ r)) : Sm (lsum l) := by
  have a : ∀ q ∈ l, 0 ≤ q := fun q hq => h.nn q (List.mem_append_left _ hq)
  have b : ∀ q ∈ r, 0 ≤ q := fun q hq => h.nn q (List.mem_append_right _ hq)
  have n1 := lsum_nonneg a
  have n2 := lsum_nonneg b
  have e := h.le
  rw [lsum_app] at e
  exact sm_of h.dp h.dl (lsum_isD fun q hq => h.d q (List.mem_append_left _ hq)) (by grind) (by grind)
theorem OneL.mem {D : Nat} {l : List Rat} (h : OneL D l) {q : Rat} (hq : q ∈ l) : Sm q := by
  obtain ⟨s, t, rfl⟩ := List.append_of_mem hq
  have n1 := lsum_nonneg (l := s) fun p hp => h.nn p (List.mem_append_left _ hp)
  have n2 := lsum_nonneg (l := t) fun p hp => h.nn p (List.mem_append_right _ (List.mem_cons_of_mem _ hp))
  have e := h.le
  rw [lsum_app] at e
  have e2 : lsum (q :: t) = q + lsum t := rfl
  rw [e2] at e
  have q0 := h.nn q hq
  exact sm_of h.dp h.dl (h.d q hq) (by grind) (by grind)
theorem mem_tab {n : Nat} {f : Nat → Rat} {q : Rat} (h : q ∈ tab n f) : ∃ j, j ≤ n ∧ f j = q := by
  obtain ⟨j, hj, e⟩ := List.mem_map.mp h
  exact ⟨j, by have := List.mem_range.mp hj; omega, e⟩
theorem lsum_tab (n : Nat) (f : Nat → Rat) : lsum (tab n f) = sumTo f (n + 1) := rfl
theorem up_pow {D t m : Nat} {q : Rat} (h : t ≤ m) (hq : IsD (D ^ t) q) : IsD (D ^ m) q := by
  have e : D ^ m = D ^ t * D ^ (m - t) := by rw [← Nat.pow_add, Nat.add_sub_cancel' h]
  rw [e]
  exact hq.up _
theorem run_one {D n m : Nat} {W : Nat → Rat} (g : Good D n W) (hb : D ^ m < 2 ^ 4500) :
    OneL (D ^ m) (tab n (goR n W m) ++ tab n (goL n W m) ++ ears n W m ++ gone n W m) := by
  have mem : ∀ q, q ∈ tab n (goR n W m) ++ tab n (goL n W m) ++ ears n W m ++ gone n W m → 0 ≤ q ∧ IsD (D ^ m) q := by
    intro q hq
    rcases List.mem_append.mp hq with hq | hq
    · rcases List.mem_append.mp hq with hq | hq
      · rcases List.mem_append.mp hq with hq | hq
        · obtain ⟨j, hj, rfl⟩ := mem_tab hq
          have := (state_good g m j hj).1
          exact ⟨this.1.1, this.2⟩
        · obtain ⟨j, hj, rfl⟩ := mem_tab hq
          have := (state_good g m j hj).2
          exact ⟨this.1.1, this.2⟩
      · obtain ⟨t, ht, rfl⟩ := List.mem_map.mp hq
        have ht := List.mem_range.mp ht
        have := (state_good g t 0 (Nat.zero_le _)).2
        exact ⟨this.1.1, up_pow (Nat.le_of_lt ht) this.2⟩
    · obtain ⟨t, ht, rfl⟩ := List.mem_map.mp hq
      have ht := List.mem_range.mp ht
      have := (state_good g t n (Nat.le_refl _)).1
      exact ⟨this.1.1, up_pow (Nat.le_of_lt ht) this.2⟩
  refine ⟨Nat.pow_pos g.dp, hb, fun q hq => (mem q hq).1, fun q hq => (mem q hq).2, ?_⟩
  rw [lsum_app, lsum_app, lsum_app, lsum_tab, lsum_tab, all_one]
  exact Rat.le_refl
theorem Rats.take {K : PySem.W.Frag} {H : L2.Hp} {xs : List L2.V} {qs : List Rat} (h : Rats K H xs qs) (j : Nat) : Rats K H (xs.take j) (qs.take j) := by
  refine ⟨by rw [List.length_take, List.length_take, h.1], fun i v q a b => ?_⟩
  rw [List.getElem?_take] at a b
  split at a
  · rw [if_pos (by assumption)] at b
    exact h.2 i v q a b
  · cases a
end Ef
namespace Ef
open PySem PySem.Spec PyProof.Rows L2 RT
/-! ### list(reversed(a list)) -/
section
variable {prog : Program} {w : World} {A : Around} {E : Value → Shared → Prop} {s : Shared} {R : Result → Shared → Prop}
/-- a fresh list at S takes what the reverse iterator at J gives -/
theorem grow_rev {J l S : Addr} {vs : Array Value} {c0 : Nat} {res : Value} (hh : A.handled = none) (hJ : s.heap.IsRevIter J l ((vs.size : Int) - 1)) (hl : s.heap.IsList l vs) (hlJ : l ≠ J) (hS : s.heap.get? S = some { cls := .type "list", data := .seq #[] c0 })
    (hSJ : S ≠ J) (hSl : S ≠ l) (hn : vs.size ≤ sizeLine)
    (hR : ∀ (g : Shared) (acc : Array Value) (c : Nat), Moved [S, J] (fun a b => b = a) s g → g.heap.get? S = some { cls := .type "list", dict := none, data := .seq acc c, slots := #[] } → ItemsOf (fun i v => vs[vs.size - 1 - i]? = some v) acc vs.size → R (.ok (.ret res)) g) :
    wpAny (model prog w) A.in1 (Builtin.List.listExtendWith (.ref S) (.ref J) res)
      (fun fin g => match fin with | .done f => R (.ok f) g | .again c' => c'.quiet = true ∧ codeAny (model prog w) A c' R g) (fun e g => R (.error e) g) s := by
  have V := (Walks.listRev (prog := prog) (w := w) (A := A.in1) hh J l hlJ vs).toS
  have hout : S ∉ [J, l] := by simp [hSJ, hSl]
  have tJ : s.TypeIs (.ref J) "list_reverseiterator" := hJ.typeIs
  have dif : Builtin.List.listSameRef (.ref S) (.ref J) = false := by simp [Builtin.List.listSameRef, hSJ]
  unfold Builtin.List.listExtendWith
  refine wpAny_bind (wpAny_typeOf tJ ?_)
  rw [if_neg (by rw [dif]; decide)]
  refine wpAny_bind (wpAny_pyIter_revIter hJ (wpAny_bind (wpAny_holding ?_)))
  unfold Builtin.List.listLengthHint
  refine wpAny_bind (wpAny_specialOf tJ nolen_lri ?_)
  show wpAny _ A.in1 (specialOf (Value.ref J) (Str.ofString "__length_hint__") >>= _) _ _ _
  refine wpAny_bind (wpAny_specialOf tJ hint_lri ?_)
  generalize hx : ("list_reverseiterator.__length_hint__" : String) = y
  wp_delta
  rw [show splitId y = some ("list_reverseiterator", "__length_hint__") from by subst hx; decide +kernel]
  subst hx
  refine wpAny_bind (wpAny_isInstance (b := true) tJ (by rw [isSubtype_type]; kernel_rfl) (wpAny_pure ?_))
  rw [if_neg (by decide)]
  have ez : ((vs.size : Nat) : Int) - 1 - ((0 : Nat) : Int) = (vs.size : Int) - 1 := by omega
  refine wpAny_pure ⟨plainId_quiet F.plain_extend_loop _, codeAny_extend_loopS V hn S hout res vs.size 0 s #[] c0 rfl (Nat.zero_le _) ⟨Nat.zero_le _, by rw [ez]; exact hJ, hl⟩ hS (ItemsOf.nil _) fun g acc c hm hg ha => ?_⟩
  exact hR g acc c hm hg ha
/-- list(J), J such an iterator -/
theorem call_list_rev {J l : Addr} {vs : Array Value} {Q : Value → Shared → Prop} (hh : A.handled = none) (hJ : s.heap.IsRevIter J l ((vs.size : Int) - 1)) (hl : s.heap.IsList l vs) (hlJ : l ≠ J) (hn : vs.size ≤ sizeLine)
    (hQ : ∀ (g : Shared) (acc : Array Value) (c : Nat), (∀ b o, b ≠ J → s.heap.get? b = some o → g.heap.get? b = some o) → g.gens = s.gens → g.drawn = s.drawn → g.os = s.os →
      g.heap.get? s.heap.objs.size = some { cls := .type "list", dict := none, data := .seq acc c, slots := #[] } → ItemsOf (fun i v => vs[vs.size - 1 - i]? = some v) acc vs.size → Q (.ref s.heap.objs.size) g) :
    wpAny (model prog w) A (call (.type "list") [.ref J]) Q E s := by
  obtain ⟨oJ, hoJ, _⟩ := id hJ
  obtain ⟨ol, hol, _⟩ := id hl
  have fJ : s.heap.objs.size ≠ J := Nat.ne_of_gt (Heap.lt_size hoJ)
  have fl : s.heap.objs.size ≠ l := Nat.ne_of_gt (Heap.lt_size hol)
  have h2 : A.in1.handled = none := hh
  refine callType_codes (Q₁ := fun u g => u = .ref s.heap.objs.size ∧ g = { s with heap := s.heap.push { cls := .type "list", data := .seq #[] } }) F.called_list (F.typeCall_list_1 _) F.entry_list_init (code_list_new _ ⟨rfl, rfl⟩) fun u g hg => ?_
  obtain ⟨rfl, rfl⟩ := hg
  have e0 : (s.heap.push { cls := .type "list", data := .seq #[] }).get? s.heap.objs.size = some { cls := .type "list", data := .seq #[] } := Heap.get?_push_size _ rfl
  refine ⟨⟨_, e0, rfl⟩, F.args_list_init_2 _ _, ?_⟩
  show wpAny _ A.in1.in1 (do let old ← Builtin.List.listItems (.ref s.heap.objs.size); Builtin.List.listUpdate (.ref s.heap.objs.size) (fun _ => #[]); letGo old.toList.reverse; Builtin.List.listExtendWith (.ref s.heap.objs.size) (.ref J) .none) _ _ _
  refine wpAny_bind ?_
  unfold Builtin.List.listItems
  refine wpAny_bind (wpAny_seqItems e0 rfl (wpAny_pure ?_))
  show wpAny _ A.in1.in1 (updateSeq s.heap.objs.size (fun _ => #[]) >>= fun _ => letGo (#[] : Array Value).toList.reverse >>= fun _ => Builtin.List.listExtendWith (.ref s.heap.objs.size) (.ref J) .none) _ _ _
  refine wpAny_bind (wpAny_updateSeq e0 rfl ?_)
  have e1 := Heap.get?_update_self (Obj.mapSeq (fun _ => (#[] : Array Value))) e0 rfl
  have kp : ∀ b o, b ≠ s.heap.objs.size → (s.heap.push { cls := .type "list", data := .seq #[] }).get? b = some o → ((s.heap.push { cls := .type "list", data := .seq #[] }).update s.heap.objs.size (Obj.mapSeq (fun _ => (#[] : Array Value)))).get? b = some o :=
    fun b o hb q => (Heap.get?_update_other _ _ (Ne.symm hb)).trans q
  refine wpAny_bind (wpAny_letGo ?_)
  refine grow_rev (s := { s with heap := (s.heap.push { cls := .type "list", data := .seq #[] }).update s.heap.objs.size (Obj.mapSeq (fun _ => (#[] : Array Value))) }) h2 (hJ.at fun o q => kp J o fJ.symm (Heap.get?_push_of_some _ q)) ?_ hlJ e1 fJ fl hn fun g acc c hm hg ha => ?_
  · obtain ⟨o, ho, hc, n, hd⟩ := hl
    exact ⟨o, kp l o fl.symm (Heap.get?_push_of_some _ ho), hc, n, hd⟩
  · refine ⟨rfl, hQ g acc c (fun b o hb q => ?_) hm.gens hm.drawn hm.os hg ha⟩
    have hbs : b ≠ s.heap.objs.size := Nat.ne_of_lt (Heap.lt_size q)
    exact hm.heap b o (by simp [hbs, hb]) (kp b o hbs (Heap.get?_push_of_some _ q))
end
def tListRev (K : PySem.W.Frag) (te : TE) : TE := fun σ H Q => te σ H fun v H1 => ∃ (a : Addr) (xs : List V), v = .ref a ∧ SqL K H1 a xs ∧ ∀ q, H1 q = none → Q (.ref q) (upd H1 q (.lst xs.reverse))
section
variable {X : Cx}
theorem pe_listRev {e : Expr} {te : TE} {n1 n2 c1 c2 : Pos} (hc : X.calm = true) (hg : Gl X "list") (hm : X.mg "list" = none) (hg2 : Gl X "reversed") (hm2 : X.mg "reversed" = none) (he : PE X e te)
    (ha : starEach [e] X.env = (false, eval e X.env) :: starEach [] X.env := by rfl)
    (hb : starEach [.Call (.Name "reversed" n2) [e] [] c2] X.env = (false, eval (.Call (.Name "reversed" n2) [e] [] c2) X.env) :: starEach [] X.env := by rfl) :
    PE X (.Call (.Name "list" n1) [.Call (.Name "reversed" n2) [e] [] c2] [] c1) (tListRev X.K te) := by
  refine ⟨fun pins s σ H Q I h => ?_⟩
  refine Call_ (ld_blt I hg hm (by decide +kernel : bootBuiltins "list" = some (.type "list")) (PyProof.Rows.callWith_type1 (args_cons (Call_ (ld_blt I hg2 hm2 PyProof.Rows.boot_reversed (PyProof.Rows.callWith_type1 (args_cons (thn (he.run pins s σ H _ I h) fun u s1 ⟨v, H1, I1, r1, q1⟩ => args_nil ?_) ha) ha rfl))) hb) hb rfl))
  obtain ⟨l, xs, rfl, hq, q⟩ := q1
  obtain rfl : u = Value.ref l := r1
  obtain ⟨its, rv, pl, hz⟩ := I1.list hq
  refine call_reversed_list pl.isList (args_nil ?_)
  have up : ∀ b o, s1.heap.get? b = some o → (s1.heap.push (revObj l ((its.toArray.size : Int) - 1))).get? b = some o := fun b o z => Heap.get?_push_of_some _ z
  have I2 : Inv X pins σ H1 { s1 with heap := s1.heap.push (revObj l ((its.toArray.size : Int) - 1)) } := I1.kept (t' := s1.toks) up
  have fp : FpOk X pins H1 s1.heap.objs.size := I1.fpOk (H' := H1) (b := s1.heap.objs.size) (Nat.le_refl _) (I1.hok.fresh (Nat.le_refl _))
  have hl := pl.isList
  obtain ⟨ol, hol, _⟩ := id hl
  have hlJ : l ≠ s1.heap.objs.size := Nat.ne_of_lt (Heap.lt_size hol)
  have hn : its.toArray.size ≤ sizeLine := by rw [List.size_toArray, ← rv.length]; exact hz
  refine call_list_rev (s := { s1 with heap := s1.heap.push (revObj l ((its.toArray.size : Int) - 1)) }) (I1.ok.hd hc) ⟨_, Heap.get?_push_size _ rfl, rfl, rfl⟩ (hl.push _) hlJ hn fun g acc c hk h1 h2 h3 hS hi => ?_
  obtain ⟨gh, gg, gd, gt, go⟩ := g
  obtain rfl : gg = s1.gens := h1
  obtain rfl : gd = s1.drawn := h2
  obtain rfl : go = s1.os := h3
  refine ⟨.ref _, upd H1 _ (.lst xs.reverse), I2.turnedNew (t' := gt) (ch := [s1.heap.objs.size]) (fun b o z y => hk b o (fun e => z (by rw [e]; exact List.mem_cons_self)) y) (fun b z => by rw [List.mem_singleton.mp z]; exact fp) (Nat.le_refl _) (show ObjOk X.prog X.w _ _ _ (.lst xs.reverse) from ⟨by rw [List.length_reverse]; exact hz, acc.toList, c, vals_rev rv hi, ?_⟩), rfl, q _ (I2.hok.fresh (Nat.le_refl _))⟩
  rw [Array.toArray_toList]
  exact hS
end
theorem Rats.rev {K : PySem.W.Frag} {H : Hp} {xs : List V} {qs : List Rat} (h : Rats K H xs qs) : Rats K H xs.reverse qs.reverse := by
  refine ⟨by rw [List.length_reverse, List.length_reverse, h.1], fun i v q a b => ?_⟩
  have hi : i < xs.length := by
    have := (List.getElem?_eq_some_iff.mp a).1
    rwa [List.length_reverse] at this
  rw [List.getElem?_reverse hi] at a
  rw [List.getElem?_reverse (by rw [← h.1]; exact hi), ← h.1] at b
  exact h.2 _ v q a b
/-! ### fields turned and joined -/
def spTurned (K : PySem.W.Frag) : Sp := fun vs H Q _ => ∃ (f l : Addr) (ws : List Rat), vs = [.ref f] ∧ FieldAt K H f l ws ∧ 1 ≤ ws.length ∧ ws.length ≤ 8 ∧ Unit1 ws ∧
  ∀ (p m : Addr) (H' : Hp), H p = none → Same H H' → FieldAt K H' p m ws.reverse → Q (.ref p) H'
def spJoined (K : PySem.W.Frag) : Sp := fun vs H Q _ => ∃ (f l g m : Addr) (ws us : List Rat), vs = [.ref f, .ref g] ∧ FieldAt K H f l ws ∧ FieldAt K H g m us ∧ 1 ≤ ws.length ∧ ws.length + us.length ≤ 8 ∧ Unit1 ws ∧ Unit1 us ∧
  ∀ (p r : Addr) (H' : Hp), H p = none → Same H H' → FieldAt K H' p r (ws ++ us) → Q (.ref p) H'
theorem Unit1.app {ws us : List Rat} (h : Unit1 ws) (g : Unit1 us) : Unit1 (ws ++ us) := fun q hq => (List.mem_append.mp hq).elim (h q) (g q)
theorem Unit1.rev {ws : List Rat} (h : Unit1 ws) : Unit1 ws.reverse := fun q hq => h q (List.mem_reverse.mp hq)
end Ef
namespace Ef
/-! ### from the other end -/
theorem sumTo_shift (f : Nat → Rat) : ∀ n, sumTo f (n + 1) = f 0 + sumTo (fun i => f (i + 1)) n
  | 0 => by
    rw [sumTo_succ, sumTo_zero, sumTo_zero]
    grind
  | n + 1 => by
    rw [sumTo_succ f (n + 1), sumTo_shift f n, sumTo_succ (fun i => f (i + 1)) n]
    grind
theorem sumTo_congr {f g : Nat → Rat} : ∀ {n : Nat}, (∀ i, i < n → f i = g i) → sumTo f n = sumTo g n
  | 0, _ => rfl
  | n + 1, h => by
    rw [sumTo_succ, sumTo_succ, sumTo_congr (n := n) (fun i hi => h i (by omega)), h n (by omega)]
theorem sumTo_add (f g : Nat → Rat) : ∀ n, sumTo (fun i => f i + g i) n = sumTo f n + sumTo g n
  | 0 => by
    rw [sumTo_zero, sumTo_zero, sumTo_zero]
    grind
  | n + 1 => by
    rw [sumTo_succ, sumTo_succ, sumTo_succ, sumTo_add f g n]
    grind
/-- one field's sounds against the turned one's -/
def pair (n : Nat) (r l r2 l2 : Nat → Rat) : Rat := sumTo (fun i => r i * r2 (n - i)) (n + 1) + sumTo (fun i => l i * l2 (n - i)) (n + 1)
theorem pair_step {n : Nat} {W V : Nat → Rat} (h : ∀ i, i < n → V (n - 1 - i) = W i) (r l r2 l2 : Nat → Rat) :
    pair n (nR W r l) (nL n W r l) r2 l2 = pair n r l (nR V r2 l2) (nL n V r2 l2) := by
  unfold pair
  rw [sumTo_shift, sumTo_succ (fun i => nL n W r l i * l2 (n - i)) n, sumTo_succ (fun i => r i * nR V r2 l2 (n - i)) n, sumTo_shift (fun i => l i * nL n V r2 l2 (n - i)) n]
  have e1 : nR W r l 0 = 0 := rfl
  have e2 : nL n W r l n = 0 := by
    unfold nL
    rw [if_neg (by omega)]
  have e3 : nR V r2 l2 (n - n) = 0 := by
    rw [Nat.sub_self]
    rfl
  have e4 : nL n V r2 l2 (n - 0) = 0 := by
    unfold nL
    rw [if_neg (by omega)]
  simp only [e1, e2, e3, e4]
  have k : sumTo (fun i => nR W r l (i + 1) * r2 (n - (i + 1)) + nL n W r l i * l2 (n - i)) n = sumTo (fun i => r i * nR V r2 l2 (n - i) + l (i + 1) * nL n V r2 l2 (n - (i + 1))) n := by
    refine sumTo_congr fun i hi => ?_
    have a1 : nR W r l (i + 1) = r i * (1 - W i) + l (i + 1) * W i := by
      unfold nR
      rw [if_neg (by omega), Nat.add_sub_cancel]
    have a2 : nL n W r l i = r i * W i + l (i + 1) * (1 - W i) := by
      unfold nL
      rw [if_pos (by omega)]
    obtain ⟨j, hj⟩ : ∃ j, n - 1 - i = j := ⟨_, rfl⟩
    have ej : n - (i + 1) = j := by omega
    have ej1 : n - i = j + 1 := by omega
    have hv := h i hi
    rw [hj] at hv
    have a3 : nR V r2 l2 (j + 1) = r2 j * (1 - V j) + l2 (j + 1) * V j := by
      unfold nR
      rw [if_neg (by omega), Nat.add_sub_cancel]
    have a4 : nL n V r2 l2 j = r2 j * V j + l2 (j + 1) * (1 - V j) := by
      unfold nL
      rw [if_pos (by omega)]
    show nR W r l (i + 1) * r2 (n - (i + 1)) + nL n W r l i * l2 (n - i) = r i * nR V r2 l2 (n - i) + l (i + 1) * nL n V r2 l2 (n - (i + 1))
    rw [ej, ej1, a1, a2, a3, a4, hv]
    grind
  rw [sumTo_add, sumTo_add] at k
  grind
theorem pair_run {n : Nat} {W V : Nat → Rat} (h : ∀ i, i < n → V (n - 1 - i) = W i) : ∀ s t, pair n (goR n W (s + t)) (goL n W (s + t)) (goR n V 0) (goL n V 0) = pair n (goR n W s) (goL n W s) (goR n V t) (goL n V t)
  | s, 0 => rfl
  | s, t + 1 => by
    have ih := pair_run h (s + 1) t
    have e : s + 1 + t = s + (t + 1) := by omega
    rw [e] at ih
    rw [ih]
    exact pair_step h _ _ _ _
theorem sumTo_nought (n : Nat) : sumTo (fun _ => 0) n = 0 := by
  induction n with
  | zero => rfl
  | succ k ih => rw [sumTo_succ, ih]; grind
theorem sumTo_one {f : Nat → Rat} {k : Nat} : ∀ {n : Nat}, k < n → (∀ i, i < n → i ≠ k → f i = 0) → sumTo f n = f k
  | 0, h, _ => by omega
  | n + 1, h, z => by
    rw [sumTo_succ]
    by_cases e : k = n
    · subst e
      have : sumTo f k = 0 := by
        rw [← sumTo_nought k]
        exact sumTo_congr fun i hi => z i (by omega) (by omega)
      rw [this]
      grind
    · rw [sumTo_one (n := n) (by omega) (fun i hi => z i (by omega)), z n (by omega) (fun q => e q.symm)]
      grind
theorem turn_at {n : Nat} {W V : Nat → Rat} (h : ∀ i, i < n → V (n - 1 - i) = W i) (t : Nat) : goR n W t n = goR n V t n := by
  have e := pair_run h 0 t
  rw [Nat.zero_add] at e
  unfold pair at e
  have z0 : ∀ U j, goR n U 0 j = if j = 0 then 1 else 0 := fun _ _ => rfl
  have z1 : ∀ U j, goL n U 0 j = 0 := fun _ _ => rfl
  have a1 : sumTo (fun i => goR n W t i * goR n V 0 (n - i)) (n + 1) = goR n W t n := by
    rw [sumTo_one (k := n) (by omega) (fun i hi ne => by rw [z0, if_neg (by omega)]; grind)]
    rw [z0, if_pos (by omega)]
    grind
  have a2 : sumTo (fun i => goL n W t i * goL n V 0 (n - i)) (n + 1) = 0 := by
    rw [← sumTo_nought (n + 1)]
    exact sumTo_congr fun i hi => by rw [z1]; grind
  have a3 : sumTo (fun i => goR n W 0 i * goR n V t (n - i)) (n + 1) = goR n V t n := by
    rw [sumTo_one (k := 0) (by omega) (fun i hi ne => by rw [z0, if_neg ne]; grind)]
    rw [z0, if_pos rfl, Nat.sub_zero]
    grind
  have a4 : sumTo (fun i => goL n W 0 i * goL n V t (n - i)) (n + 1) = 0 := by
    rw [← sumTo_nought (n + 1)]
    exact sumTo_congr fun i hi => by rw [z1]; grind
  rw [a1, a2, a3, a4] at e
  grind
theorem gone_rev (ws : List Rat) (m : Nat) : gone ws.reverse.length (at0 ws.reverse) m = gone ws.length (at0 ws) m := by
  rw [List.length_reverse]
  unfold gone
  refine List.map_congr_left fun t _ => (turn_at (fun i hi => ?_) t).symm
  unfold at0
  rw [List.getD_eq_getElem?_getD, List.getD_eq_getElem?_getD, List.getElem?_reverse (by omega)]
  congr 2
  omega
theorem GoodL.rev {D : Nat} {ws : List Rat} (h : GoodL D ws) : GoodL D ws.reverse := ⟨h.dp, fun q hq => h.all q (List.mem_reverse.mp hq)⟩
theorem GoodL.app {D : Nat} {ws vs : List Rat} (h : GoodL D ws) (g : GoodL D vs) : GoodL D (ws ++ vs) := ⟨h.dp, fun q hq => (List.mem_append.mp hq).elim (h.all q) (g.all q)⟩
end Ef
namespace Ef
/-! ### what is heard and lost in all -/
/-- what of a sound in cell j going right, left is lost at last -/
structure Harm (n : Nat) (W u v : Nat → Rat) : Prop where
  er : ∀ j, j < n → u j = (1 - W j) * u (j + 1) + W j * v j
  el : ∀ j, j < n → v (j + 1) = W j * u (j + 1) + (1 - W j) * v j
  ru : ∀ j, j ≤ n → In01 (u j)
  rv : ∀ j, j ≤ n → In01 (v j)
  un : u n = 1
  v0 : v 0 = 0
def wsum (n : Nat) (u v r l : Nat → Rat) : Rat := sumTo (fun i => r i * u i) (n + 1) + sumTo (fun i => l i * v i) (n + 1)
theorem wsum_step {n : Nat} {W u v : Nat → Rat} (h : Harm n W u v) (r l : Nat → Rat) : wsum n u v (nR W r l) (nL n W r l) + r n = wsum n u v r l := by
  unfold wsum
  rw [sumTo_shift, sumTo_succ (fun i => nL n W r l i * v i) n, sumTo_succ (fun i => r i * u i) n, sumTo_shift (fun i => l i * v i) n]
  have e1 : nR W r l 0 = 0 := rfl
  have e2 : nL n W r l n = 0 := by
    unfold nL
    rw [if_neg (by omega)]
  simp only [e1, e2, h.v0, h.un]
  have k : sumTo (fun i => nR W r l (i + 1) * u (i + 1) + nL n W r l i * v i) n = sumTo (fun i => r i * u i + l (i + 1) * v (i + 1)) n := by
    refine sumTo_congr fun i hi => ?_
    have a1 : nR W r l (i + 1) = r i * (1 - W i) + l (i + 1) * W i := by
      unfold nR
      rw [if_neg (by omega), Nat.add_sub_cancel]
    have a2 : nL n W r l i = r i * W i + l (i + 1) * (1 - W i) := by
      unfold nL
      rw [if_pos (by omega)]
    have a3 := h.er i hi
    have a4 := h.el i hi
    show nR W r l (i + 1) * u (i + 1) + nL n W r l i * v i = r i * u i + l (i + 1) * v (i + 1)
    rw [a1, a2, a3, a4]
    grind
  rw [sumTo_add, sumTo_add] at k
  grind
theorem wsum_run {n : Nat} {W u v : Nat → Rat} (h : Harm n W u v) : ∀ m, wsum n u v (goR n W m) (goL n W m) + lsum (gone n W m) = u 0
  | 0 => by
    have z0 : ∀ j, goR n W 0 j = if j = 0 then 1 else 0 := fun _ => rfl
    have z1 : ∀ j, goL n W 0 j = 0 := fun _ => rfl
    unfold wsum
    rw [sumTo_one (k := 0) (by omega) (fun i hi ne => by rw [z0, if_neg ne]; grind), sumTo_one (f := fun i => goL n W 0 i * v i) (k := 0) (by omega) (fun i hi ne => by rw [z1]; grind)]
    rw [z0, z1, if_pos rfl]
    show (1 : Rat) * u 0 + 0 * v 0 + 0 = u 0
    grind
  | m + 1 => by
    have ih := wsum_run h m
    have s := wsum_step h (goR n W m) (goL n W m)
    rw [gone_succ, lsum_push]
    have e1 : goR n W (m + 1) = nR W (goR n W m) (goL n W m) := rfl
    have e2 : goL n W (m + 1) = nL n W (goR n W m) (goL n W m) := rfl
    rw [e1, e2]
    grind
theorem sumTo_le {f g : Nat → Rat} : ∀ {n : Nat}, (∀ i, i < n → f i ≤ g i) → sumTo f n ≤ sumTo g n
  | 0, _ => Rat.le_refl
  | n + 1, h => by
    rw [sumTo_succ, sumTo_succ]
    have a := sumTo_le (n := n) fun i hi => h i (by omega)
    have b := h n (by omega)
    grind
theorem wsum_range {n : Nat} {W u v : Nat → Rat} (h : Harm n W u v) {r l : Nat → Rat} (hr : ∀ j, j ≤ n → 0 ≤ r j) (hl : ∀ j, j ≤ n → 0 ≤ l j) :
    0 ≤ wsum n u v r l ∧ wsum n u v r l ≤ sumTo r (n + 1) + sumTo l (n + 1) := by
  unfold wsum
  constructor
  · have a : sumTo (fun _ => 0) (n + 1) ≤ sumTo (fun i => r i * u i) (n + 1) := sumTo_le fun i hi => Rat.mul_nonneg (hr i (by omega)) (h.ru i (by omega)).1
    have b : sumTo (fun _ => 0) (n + 1) ≤ sumTo (fun i => l i * v i) (n + 1) := sumTo_le fun i hi => Rat.mul_nonneg (hl i (by omega)) (h.rv i (by omega)).1
    rw [sumTo_nought] at a b
    grind
  · have one : ∀ a b : Rat, 0 ≤ a → In01 b → a * b ≤ a := fun a b ha hb => by
      have := Rat.mul_le_mul_of_nonneg_left hb.2 ha
      grind
    have a : sumTo (fun i => r i * u i) (n + 1) ≤ sumTo r (n + 1) := sumTo_le fun i hi => one _ _ (hr i (by omega)) (h.ru i (by omega))
    have b : sumTo (fun i => l i * v i) (n + 1) ≤ sumTo l (n + 1) := sumTo_le fun i hi => one _ _ (hl i (by omega)) (h.rv i (by omega))
    grind
/-- the bars of the walls ahead of j -/
def bar (W : Nat → Rat) (j : Nat) : Rat := 1 + sumTo (fun i => W i / (1 - W i)) j
theorem ratio_nn {w : Rat} (h : In01 w) (h1 : w ≠ 1) : 0 ≤ w / (1 - w) := by
  have h2 := h.2
  have p : 0 < 1 - w := by grind
  have q : w / (1 - w) * (1 - w) = w := Rat.div_mul_cancel (by grind)
  refine Rat.le_of_mul_le_mul_right (c := 1 - w) ?_ p
  have := h.1
  grind
theorem bar_ge {n : Nat} {W : Nat → Rat} (h : ∀ k, k < n → In01 (W k)) (h1 : ∀ k, k < n → W k ≠ 1) : ∀ j, j ≤ n → 1 ≤ bar W j
  | 0, _ => by
    unfold bar
    rw [sumTo_zero]
    grind
  | j + 1, hj => by
    have ih := bar_ge h h1 j (by omega)
    have a := ratio_nn (h j (by omega)) (h1 j (by omega))
    unfold bar at ih ⊢
    rw [sumTo_succ]
    grind
theorem bar_mono {n : Nat} {W : Nat → Rat} (h : ∀ k, k < n → In01 (W k)) (h1 : ∀ k, k < n → W k ≠ 1) : ∀ d j, j + d ≤ n → bar W j ≤ bar W (j + d)
  | 0, _, _ => Rat.le_refl
  | d + 1, j, hj => by
    have ih := bar_mono h h1 d j (by omega)
    have a := ratio_nn (h (j + d) (by omega)) (h1 (j + d) (by omega))
    have e : bar W (j + (d + 1)) = bar W (j + d) + W (j + d) / (1 - W (j + d)) := by
      unfold bar
      rw [← Nat.add_assoc, sumTo_succ]
      grind
    rw [e]
    grind
/-- no wall returns all -/
theorem harm_bars {n : Nat} {W : Nat → Rat} (h : ∀ k, k < n → In01 (W k)) (h1 : ∀ k, k < n → W k ≠ 1) : Harm n W (fun j => bar W j / bar W n) (fun j => (bar W j - 1) / bar W n) := by
  have bn := bar_ge h h1 n (Nat.le_refl _)
  have p : 0 < bar W n := by grind
  have nz : bar W n ≠ 0 := by grind
  have step : ∀ j, j < n → ∃ x, bar W (j + 1) = bar W j + x ∧ x * (1 - W j) = W j := fun j hj => by
    refine ⟨W j / (1 - W j), ?_, ?_⟩
    · unfold bar
      rw [sumTo_succ]
      grind
    · exact Rat.div_mul_cancel (by have := h1 j hj; grind)
  have le1 : ∀ j, j ≤ n → bar W j ≤ bar W n := fun j hj => by
    have := bar_mono h h1 (n - j) j (by omega)
    rwa [Nat.add_sub_cancel' hj] at this
  have dv : ∀ a : Rat, 0 ≤ a → a ≤ bar W n → In01 (a / bar W n) := fun a a0 a1 => by
    have q : a / bar W n * bar W n = a := Rat.div_mul_cancel nz
    generalize a / bar W n = x at q ⊢
    refine ⟨?_, ?_⟩
    · refine Rat.le_of_mul_le_mul_right (c := bar W n) ?_ p
      grind
    · refine Rat.le_of_mul_le_mul_right (c := bar W n) ?_ p
      grind
  refine ⟨fun j hj => ?_, fun j hj => ?_, fun j hj => ?_, fun j hj => ?_, ?_, ?_⟩
  · obtain ⟨x, e1, e2⟩ := step j hj
    show bar W j / bar W n = (1 - W j) * (bar W (j + 1) / bar W n) + W j * ((bar W j - 1) / bar W n)
    rw [e1, Rat.div_def, Rat.div_def, Rat.div_def]
    grind
  · obtain ⟨x, e1, e2⟩ := step j hj
    show (bar W (j + 1) - 1) / bar W n = W j * (bar W (j + 1) / bar W n) + (1 - W j) * ((bar W j - 1) / bar W n)
    rw [e1, Rat.div_def, Rat.div_def, Rat.div_def]
    grind
  · have a := bar_ge h h1 j hj
    exact dv _ (by grind) (le1 j hj)
  · have a := bar_ge h h1 j hj
    have b := le1 j hj
    exact dv _ (by grind) (by grind)
  · show bar W n / bar W n = 1
    have q : bar W n / bar W n * bar W n = bar W n := Rat.div_mul_cancel nz
    grind
  · show (bar W 0 - 1) / bar W n = 0
    have e : bar W 0 = 1 := by
      unfold bar
      rw [sumTo_zero]
      grind
    rw [e, Rat.div_def]
    grind
/-- a wall that returns all -/
theorem harm_wall {n k : Nat} {W : Nat → Rat} (hk : k < n) (h1 : W k = 1) : Harm n W (fun j => if j ≤ k then 0 else 1) (fun j => if j ≤ k then 0 else 1) := by
  refine ⟨fun j hj => ?_, fun j hj => ?_, fun j hj => ?_, fun j hj => ?_, ?_, ?_⟩
  · show (if j ≤ k then (0 : Rat) else 1) = (1 - W j) * (if j + 1 ≤ k then 0 else 1) + W j * (if j ≤ k then 0 else 1)
    by_cases a : j = k
    · subst a
      rw [if_pos (Nat.le_refl _), if_neg (by omega), h1]
      grind
    · by_cases b : j ≤ k
      · rw [if_pos b, if_pos (by omega)]
        grind
      · rw [if_neg b, if_neg (by omega)]
        grind
  · show (if j + 1 ≤ k then (0 : Rat) else 1) = W j * (if j + 1 ≤ k then 0 else 1) + (1 - W j) * (if j ≤ k then 0 else 1)
    by_cases a : j = k
    · subst a
      rw [if_pos (Nat.le_refl _), if_neg (by omega), h1]
      grind
    · by_cases b : j ≤ k
      · rw [if_pos b, if_pos (by omega)]
        grind
      · rw [if_neg b, if_neg (by omega)]
        grind
  · show In01 (if j ≤ k then 0 else 1)
    split
    · exact in01_zero
    · exact in01_one
  · show In01 (if j ≤ k then 0 else 1)
    split
    · exact in01_zero
    · exact in01_one
  · exact if_neg (by omega)
  · exact if_pos (Nat.zero_le _)
/-- what is heard, lost in all -/
def barL (ws : List Rat) : Rat := 1 + lsum (ws.map fun w => w / (1 - w))
def dueG (ws : List Rat) : Rat := if 1 ∈ ws then 0 else 1 / barL ws
theorem at0_map (f : Rat → Rat) : ∀ (ws : List Rat), sumTo (fun i => f (at0 ws i)) ws.length = lsum (ws.map f)
  | [] => rfl
  | w :: ws => by
    rw [List.length_cons, sumTo_shift]
    have e := at0_map f ws
    show f (at0 (w :: ws) 0) + sumTo (fun i => f (at0 (w :: ws) (i + 1))) ws.length = f w + lsum (ws.map f)
    rw [← e]
    rfl
theorem harm_of {D : Nat} {ws : List Rat} (g : ∀ q ∈ ws, In01 q) : ∃ u v, Harm ws.length (at0 ws) u v ∧ u 0 = dueG ws := by
  have gi : ∀ k, k < ws.length → at0 ws k ∈ ws := fun k hk => List.mem_of_getElem? (at0_get hk)
  by_cases h : 1 ∈ ws
  · obtain ⟨k, hk, e⟩ := List.mem_iff_getElem.mp h
    have e2 : at0 ws k = 1 := by
      have := at0_get hk
      rw [List.getElem?_eq_getElem hk, e] at this
      exact (Option.some.inj this).symm
    refine ⟨_, _, harm_wall hk e2, ?_⟩
    unfold dueG
    rw [if_pos h]
    rfl
  · refine ⟨_, _, harm_bars (fun k hk => g _ (gi k hk)) (fun k hk z => h (z ▸ gi k hk)), ?_⟩
    unfold dueG
    rw [if_neg h]
    have e : bar (at0 ws) 0 = 1 := by
      unfold bar
      rw [sumTo_zero]
      grind
    show bar (at0 ws) 0 / bar (at0 ws) ws.length = 1 / barL ws
    rw [e]
    unfold bar barL
    rw [at0_map (fun w => w / (1 - w)) ws]
/-- the promise of the last lines of the law -/
theorem in_all_bounds {D : Nat} {ws : List Rat} (g : GoodL D ws) (m : Nat) :
    let S := sumTo (goR ws.length (at0 ws) m) (ws.length + 1) + sumTo (goL ws.length (at0 ws) m) (ws.length + 1)
    (0 ≤ (1 - dueG ws) - lsum (ears ws.length (at0 ws) m) ∧ 0 ≤ S - ((1 - dueG ws) - lsum (ears ws.length (at0 ws) m))) ∧ 0 ≤ dueG ws - lsum (gone ws.length (at0 ws) m) ∧ 0 ≤ S - (dueG ws - lsum (gone ws.length (at0 ws) m)) := by
  obtain ⟨u, v, H, e0⟩ := harm_of (D := D) (ws := ws) fun q hq => (g.all q hq).1
  have a := wsum_run H m
  have st := state_good g.good m
  have b := wsum_range H (r := goR ws.length (at0 ws) m) (l := goL ws.length (at0 ws) m) (fun j hj => (st j hj).1.1.1) (fun j hj => (st j hj).2.1.1)
  have c := all_one ws.length (at0 ws) m
  rw [e0] at a
  intro S
  have eS : S = sumTo (goR ws.length (at0 ws) m) (ws.length + 1) + sumTo (goL ws.length (at0 ws) m) (ws.length + 1) := rfl
  obtain ⟨b1, b2⟩ := b
  refine ⟨⟨?_, ?_⟩, ?_, ?_⟩ <;> grind
theorem lsum_perm {l r : List Rat} (h : l.Perm r) : lsum l = lsum r := by
  induction h with
  | nil => rfl
  | cons x _ ih => show x + _ = x + _; rw [ih]
  | swap x y l => show y + (x + lsum l) = x + (y + lsum l); grind
  | trans _ _ a b => exact a.trans b
theorem dueG_perm {l r : List Rat} (h : l.Perm r) : dueG l = dueG r := by
  unfold dueG barL
  rw [lsum_perm (h.map _)]
  by_cases a : 1 ∈ l
  · rw [if_pos a, if_pos (h.mem_iff.mp a)]
  · rw [if_neg a, if_neg (fun z => a (h.mem_iff.mpr z))]
end Ef
namespace Ef
/-! ### walls told from what is heard -/
/-- nothing is ahead of its time -/
theorem cone (n : Nat) (W : Nat → Rat) : ∀ t c, (t < c → goR n W t c = 0) ∧ (t ≤ c → goL n W t c = 0)
  | 0, c => by
    refine ⟨fun h => ?_, fun _ => rfl⟩
    show (if c = 0 then (1 : Rat) else 0) = 0
    rw [if_neg (by omega)]
  | t + 1, c => by
    refine ⟨fun h => ?_, fun h => ?_⟩
    · show nR W (goR n W t) (goL n W t) c = 0
      unfold nR
      rw [if_neg (by omega), (cone n W t (c - 1)).1 (by omega), (cone n W t c).2 (by omega)]
      grind
    · show nL n W (goR n W t) (goL n W t) c = 0
      unfold nL
      split
      · rw [(cone n W t c).1 (by omega), (cone n W t (c + 1)).2 (by omega)]
        grind
      · rfl
theorem goR_succ (n : Nat) (W : Nat → Rat) (t c : Nat) : goR n W (t + 1) (c + 1) = goR n W t c * (1 - W c) + goL n W t (c + 1) * W c := by
  show nR W (goR n W t) (goL n W t) (c + 1) = _
  unfold nR
  rw [if_neg (by omega), Nat.add_sub_cancel]
theorem goR_zero (n : Nat) (W : Nat → Rat) (t : Nat) : goR n W (t + 1) 0 = 0 := rfl
theorem goL_succ {n : Nat} (W : Nat → Rat) (t : Nat) {c : Nat} (h : c < n) : goL n W (t + 1) c = goR n W t c * W c + goL n W t (c + 1) * (1 - W c) := by
  show nL n W (goR n W t) (goL n W t) c = _
  unfold nL
  rw [if_pos h]
theorem goL_end (n : Nat) (W : Nat → Rat) (t : Nat) : goL n W t n = 0 := by
  cases t with
  | zero => rfl
  | succ t =>
    show nL n W (goR n W t) (goL n W t) n = 0
    unfold nL
    rw [if_neg (by omega)]
theorem goR_0 (n : Nat) (W : Nat → Rat) (c : Nat) : goR n W 0 c = if c = 0 then 1 else 0 := rfl
theorem goL_0 (n : Nat) (W : Nat → Rat) (c : Nat) : goL n W 0 c = 0 := rfl
/-- where the same is ahead, the same is heard: till the sound of wall j comes -/
theorem agree {j n : Nat} {W V : Nat → Rat} (hj : j ≤ n) (e : ∀ i, i < j → V i = W i) : ∀ t c, c ≤ j → (t + c ≤ 2 * j + 1 → goR n W t c = goR j V t c) ∧ (t + c ≤ 2 * j → goL n W t c = goL j V t c)
  | 0, c, _ => ⟨fun _ => (goR_0 n W c).trans (goR_0 j V c).symm, fun _ => (goL_0 n W c).trans (goL_0 j V c).symm⟩
  | t + 1, c, hc => by
    refine ⟨fun h => ?_, fun h => ?_⟩
    · cases c with
      | zero => exact (goR_zero n W t).trans (goR_zero j V t).symm
      | succ c =>
        rw [goR_succ, goR_succ, (agree hj e t c (by omega)).1 (by omega), (agree hj e t (c + 1) hc).2 (by omega), e c (by omega)]
    · by_cases hcj : c < j
      · rw [goL_succ W t (by omega : c < n), goL_succ V t hcj, (agree hj e t c hc).1 (by omega), (agree hj e t (c + 1) (by omega)).2 (by omega), e c hcj]
      · have ec : c = j := by omega
        subst ec
        rw [goL_end, (cone n W (t + 1) c).2 (by omega)]
/-- what comes through the walls ahead of j -/
def thru (W : Nat → Rat) : Nat → Rat
  | 0 => 1
  | j + 1 => thru W j * (1 - W j)
/-- what comes back through walls c .. j - 1, from cell j -/
theorem goR_front (n : Nat) (W : Nat → Rat) : ∀ j, goR n W j j = thru W j
  | 0 => rfl
  | j + 1 => by
    rw [goR_succ, goR_front n W j, (cone n W j (j + 1)).2 (by omega)]
    show thru W j * (1 - W j) + 0 * W j = thru W j * (1 - W j)
    grind
/-- the first sound of wall j -/
theorem first {j n : Nat} {W V : Nat → Rat} (hj : j < n) (e : ∀ i, i < j → V i = W i) : ∀ d c, c + d = j → ∃ x, goL n W (j + 1 + d) c = goL j V (j + 1 + d) c + thru W j * W j * x ∧ thru W c * x = thru W j
  | 0, c, hc => by
    have ec : c = j := by omega
    subst ec
    refine ⟨1, ?_, by grind⟩
    rw [goL_end, goL_succ W _ hj, goR_front, (cone n W c (c + 1)).2 (by omega)]
    grind
  | d + 1, c, hc => by
    obtain ⟨x, h1, h2⟩ := first hj e d (c + 1) (by omega)
    refine ⟨x * (1 - W c), ?_, ?_⟩
    · rw [← Nat.add_assoc, goL_succ W _ (by omega : c < n), goL_succ V _ (by omega : c < j), h1, (agree (Nat.le_of_lt hj) e (j + 1 + d) c (by omega)).1 (by omega), e c (by omega)]
      grind
    · have h3 : thru W (c + 1) = thru W c * (1 - W c) := rfl
      rw [h3] at h2
      grind
theorem heard_first {j n : Nat} {W V : Nat → Rat} (hj : j < n) (e : ∀ i, i < j → V i = W i) : goL n W (2 * j + 1) 0 = goL j V (2 * j + 1) 0 + thru W j * thru W j * W j := by
  obtain ⟨x, h1, h2⟩ := first hj e j 0 (by omega)
  have h3 : thru W 0 = 1 := rfl
  have e2 : j + 1 + j = 2 * j + 1 := by omega
  rw [e2] at h1
  rw [h3] at h2
  rw [h1]
  grind
/-- nothing comes from behind a wall that returns all -/
theorem shut {n a : Nat} {W V : Nat → Rat} (ha : a < n) (e : ∀ i, i ≤ a → V i = W i) (h1 : W a = 1) : ∀ t c, c ≤ a → goR n W t c = goR n V t c ∧ goL n W t c = goL n V t c
  | 0, c, _ => ⟨(goR_0 n W c).trans (goR_0 n V c).symm, (goL_0 n W c).trans (goL_0 n V c).symm⟩
  | t + 1, c, hc => by
    refine ⟨?_, ?_⟩
    · cases c with
      | zero => exact (goR_zero n W t).trans (goR_zero n V t).symm
      | succ c => rw [goR_succ, goR_succ, (shut ha e h1 t c (by omega)).1, (shut ha e h1 t (c + 1) hc).2, e c (by omega)]
    · rw [goL_succ W t (by omega : c < n), goL_succ V t (by omega : c < n), (shut ha e h1 t c hc).1, e c hc]
      by_cases ec : c = a
      · subst ec
        rw [h1]
        grind
      · rw [(shut ha e h1 t (c + 1) (by omega)).2]
/-- the walls up to the first one that returns all, noughts behind it -/
def cutOne : List Rat → List Rat
  | [] => []
  | w :: ws => if w = 1 then 1 :: List.replicate ws.length 0 else w :: cutOne ws
theorem cutOne_len : ∀ ws, (cutOne ws).length = ws.length
  | [] => rfl
  | w :: ws => by
    unfold cutOne
    split
    · rw [List.length_cons, List.length_cons, List.length_replicate]
    · rw [List.length_cons, List.length_cons, cutOne_len ws]
theorem cutOne_no : ∀ {ws : List Rat}, 1 ∉ ws → cutOne ws = ws
  | [], _ => rfl
  | w :: ws, h => by
    have hw : w ≠ 1 := fun z => h (by rw [z]; exact List.mem_cons_self)
    unfold cutOne
    rw [if_neg hw, cutOne_no (fun z => h (List.mem_cons_of_mem _ z))]
theorem cutOne_mem : ∀ {ws : List Rat} {q : Rat}, q ∈ cutOne ws → q ∈ ws ∨ q = 0
  | [], _, h => .inl h
  | w :: ws, q, h => by
    unfold cutOne at h
    split at h
    · rename_i hw
      rcases List.mem_cons.mp h with h | h
      · exact .inl (by rw [h, hw]; exact List.mem_cons_self)
      · exact .inr (List.mem_replicate.mp h).2
    · rcases List.mem_cons.mp h with h | h
      · exact .inl (by rw [h]; exact List.mem_cons_self)
      · rcases cutOne_mem h with h | h
        · exact .inl (List.mem_cons_of_mem _ h)
        · exact .inr h
theorem cutOne_at : ∀ {ws : List Rat} {a : Nat}, (∀ i, i < a → ws[i]? ≠ some 1) → ws[a]? = some 1 → cutOne ws = ws.take (a + 1) ++ List.replicate (ws.length - a - 1) 0
  | [], a, _, h => by simp at h
  | w :: ws, 0, _, h => by
    have e : w = 1 := Option.some.inj h
    unfold cutOne
    rw [if_pos e, e]
    rfl
  | w :: ws, a + 1, h0, h => by
    have e : w ≠ 1 := fun z => h0 0 (by omega) (by rw [z]; rfl)
    unfold cutOne
    rw [if_neg e, cutOne_at (ws := ws) (a := a) (fun i hi => h0 (i + 1) (by omega)) h]
    show _ = w :: ws.take (a + 1) ++ _
    have e2 : (w :: ws).length - (a + 1) - 1 = ws.length - a - 1 := by rw [List.length_cons]; omega
    rw [e2]
    rfl
theorem first_one : ∀ (ws : List Rat), 1 ∉ ws ∨ ∃ a, a < ws.length ∧ (∀ i, i < a → ws[i]? ≠ some 1) ∧ ws[a]? = some 1
  | [] => .inl (by simp)
  | w :: ws => by
    by_cases e : w = 1
    · exact .inr ⟨0, by rw [List.length_cons]; omega, fun i hi => by omega, by rw [e]; rfl⟩
    · rcases first_one ws with h | ⟨a, ha, h0, h1⟩
      · exact .inl fun z => (List.mem_cons.mp z).elim (fun q => e q.symm) h
      · refine .inr ⟨a + 1, by rw [List.length_cons]; omega, fun i hi => ?_, h1⟩
        cases i with
        | zero => exact fun z => e (Option.some.inj z)
        | succ i => exact h0 i (by omega)
theorem ears_cut (ws : List Rat) (m : Nat) : ears (cutOne ws).length (at0 (cutOne ws)) m = ears ws.length (at0 ws) m := by
  rw [cutOne_len]
  rcases first_one ws with h | ⟨a, ha, h0, h1⟩
  · rw [cutOne_no h]
  · have e1 : at0 ws a = 1 := by
      have := at0_get ha
      rw [h1] at this
      exact (Option.some.inj this).symm
    unfold ears
    refine List.map_congr_left fun t _ => ((shut ha (fun i hi => ?_) e1 t 0 (Nat.zero_le _)).2).symm
    rw [cutOne_at h0 h1]
    unfold at0
    rw [List.getD_eq_getElem?_getD, List.getD_eq_getElem?_getD, List.getElem?_append_left (by rw [List.length_take]; omega), List.getElem?_take, if_pos (by omega)]
/-- behind a wall that returns all stands nought -/
theorem cutOne_zero : ∀ (ws : List Rat) (i j : Nat), i < j → at0 (cutOne ws) i = 1 → at0 (cutOne ws) j = 0
  | [], i, j, _, _ => rfl
  | w :: ws, i, j, hij, h => by
    obtain ⟨j, rfl⟩ : ∃ k, j = k + 1 := ⟨j - 1, by omega⟩
    by_cases hw : w = 1
    · unfold cutOne
      rw [if_pos hw]
      show at0 (List.replicate ws.length 0) j = 0
      unfold at0
      rw [List.getD_eq_getElem?_getD, List.getElem?_replicate]
      split <;> rfl
    · unfold cutOne at h ⊢
      rw [if_neg hw] at h ⊢
      show at0 (cutOne ws) j = 0
      cases i with
      | zero => exact absurd h hw
      | succ i => exact cutOne_zero ws i j (by omega) h
theorem thru_zero {W : Nat → Rat} : ∀ {j : Nat}, thru W j = 0 → ∃ i, i < j ∧ W i = 1
  | 0, h => by
    have : (1 : Rat) = 0 := h
    simp at this
  | j + 1, h => by
    have e : thru W j * (1 - W j) = 0 := h
    rcases Rat.mul_eq_zero.mp e with h | h
    · obtain ⟨i, hi, e⟩ := thru_zero h
      exact ⟨i, by omega, e⟩
    · exact ⟨j, by omega, by grind⟩
theorem thru_in {W : Nat → Rat} : ∀ {j : Nat}, (∀ k, k < j → In01 (W k)) → In01 (thru W j)
  | 0, _ => in01_one
  | j + 1, h => (thru_in (j := j) fun k hk => h k (by omega)).mul (h j (by omega)).co
theorem thru_isD {D : Nat} {W : Nat → Rat} : ∀ {j : Nat}, (∀ k, k < j → IsD D (W k)) → IsD (D ^ j) (thru W j)
  | 0, _ => IsD.one _
  | j + 1, h => (thru_isD (j := j) fun k hk => h k (by omega)).mul ((IsD.one D).sub (h j (by omega)))
theorem thru_congr {W V : Nat → Rat} : ∀ {j : Nat}, (∀ k, k < j → V k = W k) → thru V j = thru W j
  | 0, _ => rfl
  | j + 1, h => by
    show thru V j * (1 - V j) = thru W j * (1 - W j)
    rw [thru_congr (j := j) (fun k hk => h k (by omega)), h j (by omega)]
theorem at0_take {ws : List Rat} {j i : Nat} (h : i < j) : at0 (ws.take j) i = at0 ws i := by
  unfold at0
  rw [List.getD_eq_getElem?_getD, List.getD_eq_getElem?_getD, List.getElem?_take, if_pos h]
end Ef
namespace Ef
/-! ### sizes by bits -/
def Bd (n : Nat) (q : Rat) : Prop := q.num.natAbs < 2 ^ n ∧ q.den < 2 ^ n
theorem Bd.mono {a b : Nat} {q : Rat} (h : Bd a q) (l : a ≤ b) : Bd b q := ⟨Nat.lt_of_lt_of_le h.1 (Nat.pow_le_pow_right (by decide) l), Nat.lt_of_lt_of_le h.2 (Nat.pow_le_pow_right (by decide) l)⟩
theorem Bd.sm {n : Nat} {q : Rat} (h : Bd n q) (l : n ≤ 4500) : Sm q := h.mono l
theorem bd_mk {n : Nat} {t : Int} {b : Nat} (hb : b ≠ 0) (h1 : t.natAbs < 2 ^ n) (h2 : b < 2 ^ n) : Bd n (mkRat t b) :=
  ⟨Nat.lt_of_le_of_lt (mk_num_le hb) h1, Nat.lt_of_le_of_lt (mk_den_le hb) h2⟩
theorem mul_lt_pow {x y a b : Nat} (hx : x < 2 ^ a) (hy : y < 2 ^ b) : x * y < 2 ^ (a + b) := by
  rw [Nat.pow_add]
  exact Nat.mul_lt_mul'' hx hy
theorem Bd.add {a b : Nat} {p q : Rat} (hp : Bd a p) (hq : Bd b q) : Bd (a + b + 1) (p + q) := by
  rw [← sum_mk]
  have d : p.den * q.den < 2 ^ (a + b) := mul_lt_pow hp.2 hq.2
  have e : (2 : Nat) ^ (a + b + 1) = 2 ^ (a + b) * 2 := Nat.pow_succ ..
  refine bd_mk (Nat.mul_ne_zero p.den_nz q.den_nz) ?_ (by omega)
  have x : (p.num * (q.den : Int)).natAbs < 2 ^ (a + b) := by
    rw [Int.natAbs_mul, Int.natAbs_natCast]
    exact mul_lt_pow hp.1 hq.2
  have y : (q.num * (p.den : Int)).natAbs < 2 ^ (a + b) := by
    rw [Int.natAbs_mul, Int.natAbs_natCast, Nat.add_comm]
    exact mul_lt_pow hq.1 hp.2
  omega
theorem Bd.neg {a : Nat} {p : Rat} (hp : Bd a p) : Bd a (-p) := ⟨by rw [Rat.neg_num, Int.natAbs_neg]; exact hp.1, hp.2⟩
theorem Bd.sub {a b : Nat} {p q : Rat} (hp : Bd a p) (hq : Bd b q) : Bd (a + b + 1) (p - q) := by
  rw [Rat.sub_eq_add_neg]
  exact hp.add hq.neg
theorem Bd.mul {a b : Nat} {p q : Rat} (hp : Bd a p) (hq : Bd b q) : Bd (a + b) (p * q) := by
  rw [← mul_mk]
  refine bd_mk (Nat.mul_ne_zero p.den_nz q.den_nz) ?_ (mul_lt_pow hp.2 hq.2)
  rw [Int.natAbs_mul]
  exact mul_lt_pow hp.1 hq.1
theorem Bd.div {a b : Nat} {p q : Rat} (hp : Bd a p) (hq : Bd b q) (h0 : q ≠ 0) : Bd (a + b) (p / q) := by
  rw [← over_mk]
  have z : q.num ≠ 0 := fun e => h0 (Rat.num_eq_zero.mp e)
  have g : ∀ (t b' : Int), b' ≠ 0 → ∃ (t' : Int) (n : Nat), Rat.divInt t b' = mkRat t' n ∧ t'.natAbs = t.natAbs ∧ n = b'.natAbs := by
    intro t b' hb
    rcases Int.lt_or_gt_of_ne hb with h | h
    · refine ⟨0 - t, (0 - b').toNat, ?_, by omega, by omega⟩
      rw [divInt_neg h, divInt_pos (by omega)]
    · exact ⟨t, b'.toNat, divInt_pos h, rfl, by omega⟩
  have nz : (p.den : Int) * q.num ≠ 0 := fun e => (Int.mul_eq_zero.mp e).elim (Int.ne_of_gt (den_posI p)) z
  obtain ⟨t, n, e, e1, e2⟩ := g (p.num * q.den) (p.den * q.num) nz
  rw [e]
  refine bd_mk (by omega) ?_ ?_
  · rw [e1, Int.natAbs_mul, Int.natAbs_natCast]
    exact mul_lt_pow hp.1 hq.2
  · rw [e2, Int.natAbs_mul, Int.natAbs_natCast]
    exact mul_lt_pow hp.2 hq.1
theorem bd_one : Bd 1 1 := ⟨by decide, by decide⟩
theorem bd_zero : Bd 1 0 := ⟨by decide, by decide⟩
theorem bd_of {D n : Nat} {q : Rat} (hD : 0 < D) (hl : D < 2 ^ n) (h : IsD D q) (h0 : -1 ≤ q) (h1 : q ≤ 1) : Bd n q :=
  ⟨Nat.lt_of_le_of_lt (h.num hD h0 h1) hl, Nat.lt_of_le_of_lt (h.den hD) hl⟩
/-- a part against the rest -/
theorem bd_ratio {n : Nat} {w : Rat} (h : Bd n w) (h1 : w ≠ 1) : Bd (n + (1 + n + 1)) (w / (1 - w)) := h.div (bd_one.sub h) (by grind)
theorem barL_push (ws : List Rat) (w : Rat) : barL (ws ++ [w]) = barL ws + w / (1 - w) := by
  unfold barL
  rw [List.map_append]
  show 1 + lsum (ws.map (fun w => w / (1 - w)) ++ [w / (1 - w)]) = _
  rw [lsum_push]
  grind
theorem bd_bar {n : Nat} : ∀ (k : Nat) (ws : List Rat), (∀ q ∈ ws, Bd n q ∧ q ≠ 1) → k ≤ ws.length → Bd (1 + k * (2 * n + 3)) (barL (ws.take k))
  | 0, ws, _, _ => by
    show Bd (1 + 0 * (2 * n + 3)) (1 + 0)
    have e : (1 : Rat) + 0 = 1 := by grind
    rw [e, Nat.zero_mul]
    exact bd_one
  | k + 1, ws, h, hk => by
    have ih := bd_bar k ws h (by omega)
    have hm := h ws[k] (List.getElem_mem (by omega))
    rw [List.take_succ, List.getElem?_eq_getElem (by omega)]
    show Bd _ (barL (ws.take k ++ [ws[k]]))
    rw [barL_push]
    refine (ih.add (bd_ratio hm.1 hm.2)).mono ?_
    rw [Nat.add_mul]
    omega
theorem ratio_mk {w : Rat} (h : In01 w) (h1 : w ≠ 1) : ∃ b : Nat, (w.den : Int) - w.num = (b : Int) ∧ b ≠ 0 ∧ b ≤ w.den ∧ mkRat w.num b = w / (1 - w) := by
  have u := unit_in h
  have ne : (w.den : Int) ≠ w.num := fun e => h1 (by
    have d1 : w.num.natAbs.Coprime w.den := w.reduced
    have d2 : w.num.natAbs = w.den := by omega
    rw [d2] at d1
    have d3 : w.den = 1 := (Nat.coprime_self _).mp d1
    have e3 : w.num = 1 := by omega
    exact Rat.ext e3 d3)
  refine ⟨(w.den - w.num).toNat, by omega, by omega, by omega, ?_⟩
  have nz : (1 - w) ≠ 0 := by grind
  have hd := nz_cast (den_pos w)
  have e2 : w * (w.den : Rat) = w.num := by
    have q : w = (w.num : Rat) / (w.den : Rat) := by
      rw [← Rat.mkRat_eq_div, Rat.mkRat_self]
    have r : (w.num : Rat) / (w.den : Rat) * (w.den : Rat) = w.num := Rat.div_mul_cancel hd
    rwa [← q] at r
  rw [Rat.mkRat_eq_div]
  have e4 : ((((w.den : Int) - w.num).toNat : Nat) : Rat) = (w.den : Rat) - (w.num : Rat) := by
    have a : ((((w.den : Int) - w.num).toNat : Nat) : Rat) = (((((w.den : Int) - w.num).toNat : Nat) : Int) : Rat) := rfl
    rw [a, show ((((w.den : Int) - w.num).toNat : Nat) : Int) = (w.den : Int) - w.num by omega, Rat.intCast_sub]
    rfl
  rw [e4]
  have k1 : (w.den : Rat) - (w.num : Rat) = (w.den : Rat) * (1 - w) := by rw [← e2]; grind
  have nz2 : (w.den : Rat) - (w.num : Rat) ≠ 0 := by
    rw [k1]
    intro z
    exact (Rat.mul_eq_zero.mp z).elim hd nz
  have a : (w.num : Rat) / ((w.den : Rat) - (w.num : Rat)) * ((w.den : Rat) - (w.num : Rat)) = w.num := Rat.div_mul_cancel nz2
  have b : w / (1 - w) * (1 - w) = w := Rat.div_mul_cancel nz
  generalize (w.num : Rat) / ((w.den : Rat) - (w.num : Rat)) = x at a ⊢
  generalize w / (1 - w) = y at b ⊢
  have c : (x - y) * ((w.den : Rat) - (w.num : Rat)) = 0 := by
    rw [k1] at a ⊢
    grind
  rcases Rat.mul_eq_zero.mp c with z | z
  · grind
  · exact absurd z nz2
/-- turned over -/
theorem inv_mk {q : Rat} (h : 0 < q) : ∃ b : Nat, q.num = (b : Int) ∧ b ≠ 0 ∧ mkRat (q.den : Int) b = 1 / q := by
  have p : 0 < q.num := by
    have := (Rat.lt_iff 0 q).mp h
    simpa using this
  refine ⟨q.num.toNat, by omega, by omega, ?_⟩
  rw [← divInt_pos p]
  have e := over_mk 1 q
  have e1 : (1 : Rat).num = 1 := rfl
  have e2 : (1 : Rat).den = 1 := rfl
  rw [e1, e2] at e
  rw [← e]
  simp
theorem no_one {ws : List Rat} {i : Nat} (hn : ∀ j, j < i → ws[j]? ≠ some 1) : ∀ q ∈ ws.take i, q ≠ 1 := by
  intro q hq e
  obtain ⟨j, hj, ej⟩ := List.mem_iff_getElem.mp hq
  have hj2 : j < i := by
    rw [List.length_take] at hj
    omega
  refine hn j hj2 ?_
  have g := List.getElem?_eq_getElem hj
  rw [List.getElem?_take, if_pos hj2, ej, e] at g
  exact g
theorem bd_barT {ws : List Rat} (h : ∀ q ∈ ws, Bd 41 q) (h8 : ws.length ≤ 8) {i : Nat} (hi : i ≤ ws.length) (hn : ∀ j, j < i → ws[j]? ≠ some 1) : Bd 700 (barL (ws.take i)) := by
  have a := bd_bar (n := 41) i (ws.take i) (fun q hq => ⟨h q (List.mem_of_mem_take hq), no_one hn q hq⟩) (by rw [List.length_take]; omega)
  rw [List.take_take, Nat.min_self] at a
  refine a.mono ?_
  omega
theorem barL_ge : ∀ {ws : List Rat}, (∀ q ∈ ws, In01 q ∧ q ≠ 1) → 1 ≤ barL ws
  | [], _ => by
    show (1 : Rat) ≤ 1 + 0
    grind
  | w :: ws, h => by
    have ih := barL_ge (ws := ws) fun q hq => h q (List.mem_cons_of_mem _ hq)
    have a := ratio_nn (h w List.mem_cons_self).1 (h w List.mem_cons_self).2
    have e : barL (w :: ws) = barL ws + w / (1 - w) := by
      unfold barL
      show 1 + (w / (1 - w) + lsum (ws.map fun w => w / (1 - w))) = _
      grind
    rw [e]
    grind
theorem dueG_yes {ws : List Rat} (h : 1 ∈ ws) : dueG ws = 0 := if_pos h
theorem dueG_no {ws : List Rat} (hn : ∀ j, j < ws.length → ws[j]? ≠ some 1) : dueG ws = 1 / barL ws := by
  have h : 1 ∉ ws := fun z => by
    have := no_one hn 1
    rw [List.take_length] at this
    exact this z rfl
  exact if_neg h
theorem dueG_in {ws : List Rat} (h : ∀ q ∈ ws, In01 q) : In01 (dueG ws) := by
  obtain ⟨u, v, H, e⟩ := harm_of (D := 1) h
  rw [← e]
  exact H.ru 0 (Nat.zero_le _)
theorem bd_due {ws : List Rat} (h : ∀ q ∈ ws, In01 q ∧ Bd 41 q) (h8 : ws.length ≤ 8) : Bd 701 (dueG ws) := by
  by_cases c : 1 ∈ ws
  · rw [dueG_yes c]
    exact bd_zero.mono (by omega)
  · have hn : ∀ j, j < ws.length → ws[j]? ≠ some 1 := fun j hj e => c (List.mem_of_getElem? e)
    rw [dueG_no hn]
    have b := bd_barT (fun q hq => (h q hq).2) h8 (Nat.le_refl _) hn
    rw [List.take_length] at b
    have g := barL_ge (ws := ws) fun q hq => ⟨(h q hq).1, fun e => c (e ▸ hq)⟩
    exact (bd_one.div b (by grind)).mono (by omega)
end Ef
namespace Ef
open PySem PySem.Spec PyProof.Rows L2
/-! ### promises -/
/-- what is heard, lost in all -/
def spInAll (K : PySem.W.Frag) : Sp := fun vs H Q _ => ∃ (f l : Addr) (ws : List Rat), vs = [.ref f] ∧ FieldAt K H f l ws ∧ ws.length ≤ 8 ∧ (∀ q ∈ ws, In01 q ∧ Bd 41 q) ∧
  ∀ (p : Addr) (u v : V) (H' : Hp), Same H H' → H' p = some (.tup [u, v]) → RatAt K H' u (1 - dueG ws) → RatAt K H' v (dueG ws) → Q (.ref p) H'
def spDue (K : PySem.W.Frag) : Sp := fun vs H Q _ => ∃ (l : Addr) (ws : List Rat), vs = [.ref l] ∧ RL K H l ws ∧ ws.length ≤ 8 ∧ (∀ q ∈ ws, In01 q ∧ Bd 41 q) ∧
  ∀ (p : Addr) (u v : V) (H' : Hp), Same H H' → H' p = some (.tup [u, v]) → RatAt K H' u (1 - dueG ws) → RatAt K H' v (dueG ws) → Q (.ref p) H'
def spTotal (K : PySem.W.Frag) : Sp := fun vs H Q _ => ∃ (l : Addr) (qs : List Rat), vs = [.ref l] ∧ RL K H l qs ∧ (∀ i, i ≤ qs.length → Sm (lsum (qs.take i))) ∧ (∀ q ∈ qs, Sm q) ∧
  ∀ (v : V) (H' : Hp), Same H H' → RatAt K H' v (lsum qs) → Q v H'
theorem OneL.mid {D : Nat} {s l t : List Rat} (h : OneL D (s ++ (l ++ t))) : OneL D l := by
  have n1 := lsum_nonneg (l := s) fun p hp => h.nn p (List.mem_append_left _ hp)
  have n2 := lsum_nonneg (l := t) fun p hp => h.nn p (List.mem_append_right _ (List.mem_append_right _ hp))
  have e := h.le
  rw [lsum_app, lsum_app] at e
  exact ⟨h.dp, h.dl, fun q hq => h.nn q (List.mem_append_right _ (List.mem_append_left _ hq)), fun q hq => h.d q (List.mem_append_right _ (List.mem_append_left _ hq)), by grind⟩
theorem OneL.upto {D : Nat} {l : List Rat} (h : OneL D l) (i : Nat) : Sm (lsum (l.take i)) := by
  rw [← List.take_append_drop i l] at h
  exact h.pre
theorem OneL.bd {D n : Nat} {l : List Rat} (h : OneL D l) (hn : D < 2 ^ n) : Bd n (lsum l) := by
  have a := lsum_nonneg h.nn
  have b := h.le
  exact bd_of h.dp hn (lsum_isD h.d) (by grind) b
theorem Rats.erase {K : PySem.W.Frag} {H : Hp} {xs : List V} {qs : List Rat} (h : Rats K H xs qs) (k : Nat) : Rats K H (xs.eraseIdx k) (qs.eraseIdx k) := by
  refine ⟨by rw [List.length_eraseIdx, List.length_eraseIdx, h.1], fun i v q a b => ?_⟩
  rw [List.getElem?_eraseIdx] at a b
  by_cases c : i < k
  · rw [if_pos c] at a b
    exact h.2 i v q a b
  · rw [if_neg c] at a b
    exact h.2 (i + 1) v q a b
theorem perm_pop {l r ws : List Rat} {k : Nat} {q : Rat} (h : (r ++ l).Perm ws) (e : l[k]? = some q) : ((r ++ [q]) ++ l.eraseIdx k).Perm ws := by
  obtain ⟨hk, ek⟩ := List.getElem?_eq_some_iff.mp e
  refine List.Perm.trans ?_ h
  rw [List.append_assoc]
  refine List.Perm.append_left r ?_
  have e2 : l = l.take k ++ q :: l.drop (k + 1) := by
    rw [← ek, ← List.drop_eq_getElem_cons hk, List.take_append_drop]
  have e3 : l.eraseIdx k = l.take k ++ l.drop (k + 1) := List.eraseIdx_eq_take_drop_succ ..
  rw [e3]
  have e4 : (q :: (l.take k ++ l.drop (k + 1))).Perm l := by
    conv => rhs; rw [e2]
    exact List.perm_middle.symm
  exact e4
def dPair (p q : Rat) : PyData := .tuple [dRat p, dRat q]
theorem pair_dp {K : PySem.W.Frag} {H : Hp} {t : Addr} {u v : V} {p q : Rat} (e : H t = some (.tup [u, v])) (hu : RatAt K H u p) (hv : RatAt K H v q) : Dp K H (.ref t) (dPair p q) := .tup (SqT.of e) (.cons hu.dp (.cons hv.dp .nil))
theorem eqv_pair (p q : Rat) : PyData.eqv (dPair p q) (dPair p q) = true := by
  show (PyData.eqv (dRat p) (dRat p) && (PyData.eqv (dRat q) (dRat q) && true)) = true
  rw [eqv_rat, eqv_rat, decide_eq_true rfl, decide_eq_true rfl]
  rfl
theorem sh_pair (p q : Rat) : SeqAt.shaped (dPair p q) = true := by rfl
theorem great_pow {b m : Nat} {g : Bool} (hb : b ≤ 10 ^ 12) (h1 : g = false → b = 1) (h2 : g = true → m ≤ 2) (h3 : m ≤ 40) : (60 * b) ^ m < 2 ^ 300 := by
  cases g with
  | true =>
    have a : (60 * b) ^ m ≤ (60 * 10 ^ 12 + 1) ^ m := Nat.pow_le_pow_left (by omega) m
    have c : (60 * 10 ^ 12 + 1) ^ m ≤ (60 * 10 ^ 12 + 1) ^ 2 := Nat.pow_le_pow_right (by decide) (h2 rfl)
    have d : (60 * 10 ^ 12 + 1) ^ 2 < 2 ^ 300 := by decide
    exact Nat.lt_of_le_of_lt (Nat.le_trans a c) d
  | false =>
    rw [h1 rfl, Nat.mul_one]
    have a : 60 ^ m ≤ 60 ^ 40 := Nat.pow_le_pow_right (by decide) h3
    have d : 60 ^ 40 < 2 ^ 300 := by decide
    exact Nat.lt_of_le_of_lt a d
theorem seq_at {z : Int} {i n : Nat} (e : z = (i : Int)) (h : i < n) : seqIndex? z n = some i := by
  subst e
  unfold seqIndex?
  have h0 : ¬ ((i : Int) < 0) := by omega
  have h1 : (decide (0 ≤ (i : Int)) && decide ((i : Int) < (n : Int))) = true := by
    rw [decide_eq_true (by omega), decide_eq_true (by omega)]
    rfl
  simp only [if_neg h0, h1, if_true, Int.toNat_natCast]
end Ef
namespace Ef
/-! ### walls told by a record -/
def knownOf (ws : List Rat) : Rat := goL ws.length (at0 ws) (2 * ws.length + 1) 0
def thruOf (ws : List Rat) : Rat := thru (at0 ws) ws.length * thru (at0 ws) ws.length
def partOf (ws : List Rat) (r : Rat) : Rat := (r - knownOf ws) / thruOf ws
instance (q : Rat) : Decidable (In01 q) := inferInstanceAs (Decidable (0 ≤ q ∧ q ≤ 1))
def nextP (ws : List Rat) (r : Rat) : Option Rat := if thruOf ws = 0 then some 0 else if In01 (partOf ws r) then some (partOf ws r) else none
/-- where walls found one by one end -/
def toldGo (rs : List Rat) : Nat → List Rat → Option (List Rat)
  | 0, ws => if ears ws.length (at0 ws) rs.length = rs then some ws else none
  | n + 1, ws => match nextP ws (at0 rs (2 * ws.length + 1)) with
    | none => none
    | some q => toldGo rs n (ws ++ [q])
def told (rs : List Rat) : Option (List Rat) := toldGo rs (rs.length / 2) []
theorem toldGo_some {rs ws : List Rat} {n : Nat} {q : Rat} (h : nextP ws (at0 rs (2 * ws.length + 1)) = some q) : toldGo rs (n + 1) ws = toldGo rs n (ws ++ [q]) := by
  show (match nextP ws (at0 rs (2 * ws.length + 1)) with
    | none => none
    | some q => toldGo rs n (ws ++ [q])) = _
  rw [h]
theorem toldGo_none {rs ws : List Rat} {n : Nat} (h : nextP ws (at0 rs (2 * ws.length + 1)) = none) : toldGo rs (n + 1) ws = none := by
  show (match nextP ws (at0 rs (2 * ws.length + 1)) with
    | none => none
    | some q => toldGo rs n (ws ++ [q])) = _
  rw [h]
theorem toldGo_end {rs ws : List Rat} : toldGo rs 0 ws = if ears ws.length (at0 ws) rs.length = rs then some ws else none := rfl
inductive Reach (rs : List Rat) : List Rat → Prop
  | nil : Reach rs []
  | step {ws : List Rat} {q : Rat} : Reach rs ws → 2 * ws.length + 1 < rs.length → nextP ws (at0 rs (2 * ws.length + 1)) = some q → Reach rs (ws ++ [q])
theorem nextP_in {ws : List Rat} {r q : Rat} (h : nextP ws r = some q) : In01 q := by
  unfold nextP at h
  split at h
  · cases h
    exact in01_zero
  · split at h
    · cases h
      assumption
    · cases h
theorem Reach.all_in {rs ws : List Rat} (h : Reach rs ws) : ∀ q ∈ ws, In01 q := by
  induction h with
  | nil => intro q hq; cases hq
  | step _ _ e ih =>
    intro q hq
    rcases List.mem_append.mp hq with hq | hq
    · exact ih q hq
    · rw [List.mem_singleton.mp hq]
      exact nextP_in e
theorem Reach.len {rs ws : List Rat} (h : Reach rs ws) : 2 * ws.length ≤ rs.length := by
  induction h with
  | nil => exact Nat.zero_le _
  | step _ l _ _ => rw [List.length_append, List.length_singleton]; omega
/-- what the reckoning of the next wall needs -/
structure NextOk (ws : List Rat) (r : Rat) : Prop where
  run : RunOk ws.length (at0 ws) (2 * ws.length + 2)
  w1 : ∀ q ∈ ws, Sm q ∧ Sm (1 - q) ∧ Sm ((1 - q) * (1 - q))
  th : ∀ i, i ≤ ws.length → Sm (thru (at0 ws) i * thru (at0 ws) i)
  kn : Sm (knownOf ws)
  df : Sm (r - knownOf ws)
structure ToldOk (rs : List Rat) : Prop where
  sm : ∀ q ∈ rs, Sm q
  nx : ∀ ws, Reach rs ws → 2 * ws.length + 1 < rs.length → NextOk ws (at0 rs (2 * ws.length + 1))
  rn : ∀ ws, Reach rs ws → 2 * ws.length = rs.length → RunOk ws.length (at0 ws) rs.length
/-! the record of a field that is cut at its first wall that returns all -/
theorem ears_at (n : Nat) (W : Nat → Rat) {k m : Nat} (h : k < m) : at0 (ears n W m) k = goL n W k 0 := by
  unfold at0
  rw [List.getD_eq_getElem?_getD, ears_get n W h]
  rfl
theorem next_due {ds : List Rat} (hz : ∀ i j, i < j → at0 ds i = 1 → at0 ds j = 0) (hi : ∀ q ∈ ds, In01 q) {j m : Nat} (hj : j < ds.length) (hm : 2 * j + 1 < m) : nextP (ds.take j) (at0 (ears ds.length (at0 ds) m) (2 * j + 1)) = some (at0 ds j) := by
  have el : (ds.take j).length = j := by rw [List.length_take]; omega
  have e0 : ∀ i, i < j → at0 (ds.take j) i = at0 ds i := fun i hi => at0_take hi
  have et : thruOf (ds.take j) = thru (at0 ds) j * thru (at0 ds) j := by
    unfold thruOf
    rw [el, thru_congr (W := at0 ds) (V := at0 (ds.take j)) e0]
  have ek : at0 (ears ds.length (at0 ds) m) (2 * j + 1) = knownOf (ds.take j) + thruOf (ds.take j) * at0 ds j := by
    rw [ears_at _ _ hm, heard_first hj e0, et]
    unfold knownOf
    rw [el]
  unfold nextP partOf
  rw [ek]
  by_cases h : thruOf (ds.take j) = 0
  · rw [if_pos h]
    rw [et] at h
    have h1 : thru (at0 ds) j = 0 := (Rat.mul_eq_zero.mp h).elim id id
    obtain ⟨i, hij, e1⟩ := thru_zero h1
    rw [hz i j hij e1]
  · rw [if_neg h]
    have e : (knownOf (ds.take j) + thruOf (ds.take j) * at0 ds j - knownOf (ds.take j)) / thruOf (ds.take j) = at0 ds j := by
      have q : (knownOf (ds.take j) + thruOf (ds.take j) * at0 ds j - knownOf (ds.take j)) / thruOf (ds.take j) * thruOf (ds.take j) = _ := Rat.div_mul_cancel h
      generalize (knownOf (ds.take j) + thruOf (ds.take j) * at0 ds j - knownOf (ds.take j)) / thruOf (ds.take j) = x at q ⊢
      have z : (x - at0 ds j) * thruOf (ds.take j) = 0 := by grind
      rcases Rat.mul_eq_zero.mp z with y | y
      · grind
      · exact absurd y h
    rw [e, if_pos (hi _ (List.mem_of_getElem? (at0_get hj)))]
theorem take_push {ds : List Rat} {j : Nat} (hj : j < ds.length) : ds.take j ++ [at0 ds j] = ds.take (j + 1) := by
  rw [List.take_succ, at0_get hj]
  rfl
theorem reach_due {ds : List Rat} (hz : ∀ i j, i < j → at0 ds i = 1 → at0 ds j = 0) (hi : ∀ q ∈ ds, In01 q) {ws : List Rat} (h : Reach (ears ds.length (at0 ds) (2 * ds.length)) ws) : ws = ds.take ws.length ∧ ws.length ≤ ds.length := by
  induction h with
  | nil => exact ⟨by simp, Nat.zero_le _⟩
  | @step us q _ l e ih =>
    rw [ears_len] at l
    have lu : us.length < ds.length := by omega
    have e2 := next_due hz hi lu l
    rw [ih.1] at e
    rw [List.length_take, Nat.min_eq_left (Nat.le_of_lt lu)] at e
    rw [e2] at e
    have eq : at0 ds us.length = q := Option.some.inj e
    rw [List.length_append, List.length_singleton]
    refine ⟨?_, lu⟩
    rw [← take_push lu, ← ih.1, eq]
theorem told_due {ds : List Rat} (hz : ∀ i j, i < j → at0 ds i = 1 → at0 ds j = 0) (hi : ∀ q ∈ ds, In01 q) : told (ears ds.length (at0 ds) (2 * ds.length)) = some ds := by
  have go : ∀ k j, j + k = ds.length → toldGo (ears ds.length (at0 ds) (2 * ds.length)) k (ds.take j) = some ds := by
    intro k
    induction k with
    | zero =>
      intro j hj
      have e : ds.take j = ds := List.take_of_length_le (by omega)
      rw [e]
      unfold toldGo
      rw [ears_len, if_pos rfl]
    | succ k ih =>
      intro j hj
      have lj : j < ds.length := by omega
      unfold toldGo
      rw [List.length_take, Nat.min_eq_left (Nat.le_of_lt lj), next_due hz hi lj (by omega)]
      show toldGo _ k (ds.take j ++ [at0 ds j]) = some ds
      rw [take_push lj]
      exact ih (j + 1) (by omega)
  unfold told
  rw [ears_len]
  have e : 2 * ds.length / 2 = ds.length := by omega
  rw [e]
  exact go ds.length 0 (by omega)
/-- sizes where all parts have a bottom -/
theorem next_ok {D : Nat} {ws : List Rat} {r : Rat} (g : GoodL D ws) (hr : In01 r) (hd : IsD (D ^ (2 * ws.length + 1)) r) (hb : D ^ (2 * ws.length + 2) < 2 ^ 4500) : NextOk ws r := by
  have gg := g.good
  have up : ∀ k, k ≤ 2 * ws.length + 2 → D ^ k < 2 ^ 4500 := fun k hk => Nat.lt_of_le_of_lt (Nat.pow_le_pow_right g.dp hk) hb
  have sm : ∀ k q, k ≤ 2 * ws.length + 2 → IsD (D ^ k) q → -1 ≤ q → q ≤ 1 → Sm q := fun k q hk h h0 h1 => sm_of (Nat.pow_pos g.dp) (up k hk) h h0 h1
  have hk := (state_good gg (2 * ws.length + 1) 0 (Nat.zero_le _)).2
  refine ⟨run_ok gg hb, fun q hq => ?_, fun i hi => ?_, sm _ _ (by omega) hk.2 hk.1.neg1 hk.1.2, ?_⟩
  · have a := g.all q hq
    have e1 : IsD (D ^ 1) q := by rw [Nat.pow_one]; exact a.2
    have pos : 0 < ws.length := List.length_pos_of_mem hq
    refine ⟨sm 1 _ (by omega) e1 a.1.neg1 a.1.2, sm 1 _ (by omega) ((IsD.one _).sub e1) a.1.co.neg1 a.1.co.2, ?_⟩
    have e2 : IsD (D ^ 2) ((1 - q) * (1 - q)) := by
      rw [Nat.pow_succ, Nat.pow_one]
      exact ((IsD.one _).sub a.2).mul ((IsD.one _).sub a.2)
    have m := a.1.co.mul a.1.co
    exact sm 2 _ (by omega) e2 m.neg1 m.2
  · have a := thru_in (W := at0 ws) (j := i) fun k hk => gg.i k (by omega)
    have b := thru_isD (D := D) (W := at0 ws) (j := i) fun k hk => gg.d k (by omega)
    have m := a.mul a
    have e : IsD (D ^ (i + i)) (thru (at0 ws) i * thru (at0 ws) i) := by
      rw [Nat.pow_add]
      exact b.mul b
    exact sm (i + i) _ (by omega) e m.neg1 m.2
  · have a := hk.1
    have h1 := hr.1
    have h2 := hr.2
    have h3 := a.1
    have h4 := a.2
    refine sm (2 * ws.length + 1) _ (by omega) (hd.sub hk.2) ?_ ?_
    · show -1 ≤ r - goL ws.length (at0 ws) (2 * ws.length + 1) 0
      grind
    · show r - goL ws.length (at0 ws) (2 * ws.length + 1) 0 ≤ 1
      grind
theorem GoodL.take {D : Nat} {ws : List Rat} (h : GoodL D ws) (j : Nat) : GoodL D (ws.take j) := ⟨h.dp, fun q hq => h.all q (List.mem_of_mem_take hq)⟩
theorem GoodL.cut {D : Nat} {ws : List Rat} (h : GoodL D ws) : GoodL D (cutOne ws) := ⟨h.dp, fun q hq => by
  rcases cutOne_mem hq with hq | hq
  · exact h.all q hq
  · rw [hq]
    exact ⟨in01_zero, IsD.zero D⟩⟩
/-- the record of a field -/
theorem told_ok {D : Nat} {ds : List Rat} (g : GoodL D ds) (hz : ∀ i j, i < j → at0 ds i = 1 → at0 ds j = 0) (hb : D ^ (2 * ds.length) < 2 ^ 4500) : ToldOk (ears ds.length (at0 ds) (2 * ds.length)) := by
  have hi : ∀ q ∈ ds, In01 q := fun q hq => (g.all q hq).1
  have st : ∀ t, t < 2 * ds.length → In01 (goL ds.length (at0 ds) t 0) ∧ IsD (D ^ t) (goL ds.length (at0 ds) t 0) := fun t ht => (state_good g.good t 0 (Nat.zero_le _)).2
  refine ⟨fun q hq => ?_, fun ws h l => ?_, fun ws h l => ?_⟩
  · obtain ⟨t, ht, rfl⟩ := List.mem_map.mp hq
    have ht := List.mem_range.mp ht
    obtain ⟨a, b⟩ := st t ht
    exact sm_of (Nat.pow_pos g.dp) (Nat.lt_of_le_of_lt (Nat.pow_le_pow_right g.dp (Nat.le_of_lt ht)) hb) b a.neg1 a.2
  · rw [ears_len] at l
    obtain ⟨e, hl⟩ := reach_due hz hi h
    rw [ears_at _ _ l]
    have gw : GoodL D ws := e ▸ g.take ws.length
    obtain ⟨a, b⟩ := st (2 * ws.length + 1) l
    exact next_ok gw a b (Nat.lt_of_le_of_lt (Nat.pow_le_pow_right g.dp (by omega)) hb)
  · rw [ears_len] at l ⊢
    obtain ⟨e, hl⟩ := reach_due hz hi h
    have gw : GoodL D ws := e ▸ g.take ws.length
    exact run_ok gw.good hb
end Ef
namespace Ef
open PySem PySem.Spec PyProof.Rows L2
/-! ### promises -/
def spNext (K : PySem.W.Frag) : Sp := fun vs H Q _ => ∃ (lw lr : Addr) (ws rs : List Rat), vs = [.ref lw, .ref lr] ∧ RL K H lw ws ∧ RL K H lr rs ∧ 2 * ws.length + 1 < rs.length ∧ rs.length ≤ 16 ∧ (∀ q ∈ ws, In01 q) ∧ (∀ q ∈ rs, Sm q) ∧ NextOk ws (at0 rs (2 * ws.length + 1)) ∧
  (∀ q, nextP ws (at0 rs (2 * ws.length + 1)) = some q → ∀ v H', Same H H' → RatAt K H' v q → Q v H') ∧ (nextP ws (at0 rs (2 * ws.length + 1)) = none → ∀ H', Same H H' → Q .non H')
def spTold (K : PySem.W.Frag) : Sp := fun vs H Q _ => ∃ (lr : Addr) (rs : List Rat), vs = [.ref lr] ∧ RL K H lr rs ∧ rs.length % 2 = 0 ∧ 2 ≤ rs.length ∧ rs.length ≤ 16 ∧ (∀ q ∈ rs, 0 ≤ q) ∧ ToldOk rs ∧
  (∀ ws, told rs = some ws → ∀ m H', Same H H' → H m = none → RL K H' m ws → Q (.ref m) H') ∧ (told rs = none → ∀ H', Same H H' → Q .non H')
theorem un65 {k : Nat} {A : Around} (r : Room k A) : A.units + 65 < cLine := by
  have := r.un
  omega
theorem any_one : ∀ qs : List Rat, ((qs.map dRat).any fun z => PyData.eqv z (dRat 1)) = decide (1 ∈ qs)
  | [] => rfl
  | q :: qs => by
    show (PyData.eqv (dRat q) (dRat 1) || (qs.map dRat).any fun z => PyData.eqv z (dRat 1)) = _
    rw [eqv_rat, any_one qs]
    by_cases h : q = 1
    · subst h
      simp
    · have h2 : ¬ (1 = q) := fun e => h e.symm
      simp [h, h2]
theorem half_at {K : PySem.W.Frag} {H : Hp} {t : Addr} (e : H t = some (.tup [.int 1, .int 2])) : RatAt K H (.ref t) (mkRat 1 2) := by
  have e1 : (mkRat 1 2).num = 1 := by decide
  have e2 : (mkRat 1 2).den = 2 := by decide
  refine ⟨t, rfl, ?_⟩
  rw [e1, e2]
  exact SqT.of e
theorem four_good {q : Rat} (h : q ∈ [0, mkRat 1 2, mkRat 1 2, 1]) : In01 q ∧ IsD 60 q := by
  have hh : In01 (mkRat 1 2) ∧ IsD 60 (mkRat 1 2) := ⟨in01_mk (by decide) (by decide) (by decide), isD_mk (b := 2) (e := 30) (by decide)⟩
  rcases List.mem_cons.mp h with h | h
  · rw [h]
    exact ⟨in01_zero, IsD.zero _⟩
  rcases List.mem_cons.mp h with h | h
  · rw [h]
    exact hh
  rcases List.mem_cons.mp h with h | h
  · rw [h]
    exact hh
  · rw [List.mem_singleton.mp h]
    exact ⟨in01_one, IsD.one _⟩
end Ef
namespace Ef
/-! ### sizes, wall by wall -/
def prodTo (f : Nat → Nat) : Nat → Nat
  | 0 => 1
  | n + 1 => prodTo f n * f n
def pw (d : Nat → Nat) (t i : Nat) : Nat := d i ^ ((t + 1 - i) / 2)
/-- a bottom of all that goes at moment t -/
def DD (d : Nat → Nat) (n t : Nat) : Nat := prodTo (pw d t) n
theorem prodTo_pos {f : Nat → Nat} : ∀ {n : Nat}, (∀ i, i < n → 0 < f i) → 0 < prodTo f n
  | 0, _ => Nat.one_pos
  | n + 1, h => Nat.mul_pos (prodTo_pos (n := n) fun i hi => h i (by omega)) (h n (by omega))
theorem prodTo_dvd {f g : Nat → Nat} : ∀ {n : Nat}, (∀ i, i < n → f i ∣ g i) → prodTo f n ∣ prodTo g n
  | 0, _ => Nat.dvd_refl _
  | n + 1, h => Nat.mul_dvd_mul (prodTo_dvd (n := n) fun i hi => h i (by omega)) (h n (by omega))
theorem prodTo_dvd_at {f g : Nat → Nat} {c e : Nat} : ∀ {n : Nat}, c < n → (∀ i, i < n → i ≠ c → f i ∣ g i) → f c * e ∣ g c → prodTo f n * e ∣ prodTo g n
  | 0, h, _, _ => by omega
  | n + 1, h, h1, h2 => by
    show prodTo f n * f n * e ∣ prodTo g n * g n
    by_cases k : c = n
    · subst k
      rw [Nat.mul_assoc]
      exact Nat.mul_dvd_mul (prodTo_dvd fun i hi => h1 i (by omega) (by omega)) h2
    · have a := prodTo_dvd_at (n := n) (by omega) (fun i hi => h1 i (by omega)) h2
      have b := h1 n (by omega) (fun z => k z.symm)
      have e1 : prodTo f n * f n * e = prodTo f n * e * f n := by rw [Nat.mul_assoc, Nat.mul_comm (f n), ← Nat.mul_assoc]
      rw [e1]
      exact Nat.mul_dvd_mul a b
theorem IsD.dvd {D E : Nat} {q : Rat} (h : IsD D q) (hd : D ∣ E) : IsD E q := by
  obtain ⟨k, rfl⟩ := hd
  exact h.up k
structure Good2 (d : Nat → Nat) (n : Nat) (W : Nat → Rat) : Prop where
  dp : ∀ k, k < n → 0 < d k
  i : ∀ k, k < n → In01 (W k)
  d : ∀ k, k < n → IsD (d k) (W k)
theorem state_in {n : Nat} {W : Nat → Rat} (hi : ∀ k, k < n → In01 (W k)) : ∀ t j, j ≤ n → In01 (goR n W t j) ∧ In01 (goL n W t j)
  | 0, j, _ => by
    rw [goR_0, goL_0]
    refine ⟨?_, in01_zero⟩
    split
    · exact in01_one
    · exact in01_zero
  | t + 1, j, hj => by
    have ih := state_in hi t
    refine ⟨?_, ?_⟩
    · cases j with
      | zero => exact (goR_zero n W t).symm ▸ in01_zero
      | succ j =>
        rw [goR_succ]
        exact (ih j (by omega)).1.mix (ih (j + 1) hj).2 (hi j (by omega))
    · by_cases h : j < n
      · rw [goL_succ W t h, Rat.add_comm]
        exact (ih (j + 1) (by omega)).2.mix (ih j hj).1 (hi j h)
      · have e : j = n := by omega
        subst e
        rw [goL_end]
        exact in01_zero
theorem DD_step {d : Nat → Nat} {n t c : Nat} (hc : c < n) (hp : (c + t) % 2 = 0) (ht : c ≤ t) : DD d n t * d c ∣ DD d n (t + 1) := by
  unfold DD
  refine prodTo_dvd_at hc (fun i hi _ => ?_) ?_
  · unfold pw
    exact Nat.pow_dvd_pow _ (by omega)
  · unfold pw
    have e : (t + 1 + 1 - c) / 2 = (t + 1 - c) / 2 + 1 := by omega
    rw [e, Nat.pow_succ]
    exact Nat.dvd_refl _
theorem DD_mono {d : Nat → Nat} {n t s : Nat} (h : t ≤ s) : DD d n t ∣ DD d n s := prodTo_dvd fun i _ => Nat.pow_dvd_pow _ (by omega)
/-- what meets at wall c at moment t is nought, or the bottom grows by that wall's -/
theorem meet (n : Nat) (W : Nat → Rat) (t c : Nat) : (goR n W t c = 0 ∧ goL n W t (c + 1) = 0) ∨ ((c + t) % 2 = 0 ∧ c ≤ t) := by
  by_cases h : (c + t) % 2 = 0
  · by_cases h2 : c ≤ t
    · exact .inr ⟨h, h2⟩
    · exact .inl ⟨(cone n W t c).1 (by omega), (cone n W t (c + 1)).2 (by omega)⟩
  · exact .inl ⟨(parity n W t c).1 (by omega), (parity n W t (c + 1)).2 (by omega)⟩
theorem state_two {d : Nat → Nat} {n : Nat} {W : Nat → Rat} (g : Good2 d n W) : ∀ t j, j ≤ n → IsD (DD d n t) (goR n W t j) ∧ IsD (DD d n t) (goL n W t j)
  | 0, j, _ => by
    rw [goR_0, goL_0]
    refine ⟨?_, IsD.zero _⟩
    split
    · exact IsD.one _
    · exact IsD.zero _
  | t + 1, j, hj => by
    have ih := state_two g t
    refine ⟨?_, ?_⟩
    · cases j with
      | zero => exact (goR_zero n W t).symm ▸ IsD.zero _
      | succ j =>
        rw [goR_succ]
        have hjn : j < n := by omega
        rcases meet n W t j with ⟨a, b⟩ | ⟨a, b⟩
        · rw [a, b]
          have e : (0 : Rat) * (1 - W j) + 0 * W j = 0 := by grind
          rw [e]
          exact IsD.zero _
        · have s := DD_step (d := d) hjn a b
          have w := g.d j hjn
          exact (((ih j (by omega)).1.mul ((IsD.one _).sub w)).add ((ih (j + 1) hj).2.mul w)).dvd s
    · by_cases h : j < n
      · rw [goL_succ W t h]
        rcases meet n W t j with ⟨a, b⟩ | ⟨a, b⟩
        · rw [a, b]
          have e : (0 : Rat) * W j + 0 * (1 - W j) = 0 := by grind
          rw [e]
          exact IsD.zero _
        · have s := DD_step (d := d) h a b
          have w := g.d j h
          exact (((ih j hj).1.mul w).add ((ih (j + 1) (by omega)).2.mul ((IsD.one _).sub w))).dvd s
      · have e : j = n := by omega
        subst e
        rw [goL_end]
        exact IsD.zero _
theorem run_two {d : Nat → Nat} {n m : Nat} {W : Nat → Rat} (g : Good2 d n W) (hb : DD d n m < 2 ^ 4500) (hd : ∀ k, k < n → d k < 2 ^ 4500) : RunOk n W m := fun t ht k hk => by
  have a1 := (state_in g.i t k (by omega)).1
  have b1 := (state_in g.i t (k + 1) (by omega)).2
  have w := g.i k hk
  have wd := g.d k hk
  have hp : ∀ s, 0 < DD d n s := fun s => prodTo_pos fun i hi => Nat.pow_pos (g.dp i hi)
  have sw : ∀ q, IsD (d k) q → In01 q → Sm q := fun q h i => sm_of (g.dp k hk) (hd k hk) h i.neg1 i.2
  have hl : DD d n (t + 1) < 2 ^ 4500 := Nat.lt_of_le_of_lt (Nat.le_of_dvd (hp m) (DD_mono (by omega))) hb
  have hl0 : DD d n t < 2 ^ 4500 := Nat.lt_of_le_of_lt (Nat.le_of_dvd (hp m) (DD_mono (by omega))) hb
  have a2 := (state_two g t k (by omega)).1
  have b2 := (state_two g t (k + 1) (by omega)).2
  have go0 : ∀ q, IsD (DD d n t) q → In01 q → Sm q := fun q h i => sm_of (hp t) hl0 h i.neg1 i.2
  have up : ∀ x v, (x = goR n W t k ∨ x = goL n W t (k + 1)) → IsD (DD d n t) x → IsD (d k) v → IsD (DD d n (t + 1)) (x * v) := fun x v hx h h2 => by
    rcases meet n W t k with ⟨a, b⟩ | ⟨a, b⟩
    · have e : x * v = 0 := by
        rcases hx with e | e
        · rw [e, a]
          grind
        · rw [e, b]
          grind
      rw [e]
      exact IsD.zero _
    · exact (h.mul h2).dvd (DD_step hk a b)
  have go : ∀ q, IsD (DD d n (t + 1)) q → In01 q → Sm q := fun q h i => sm_of (hp (t + 1)) hl h i.neg1 i.2
  have vd : IsD (d k) (1 - W k) := (IsD.one _).sub wd
  have ea : goR n W t k - goR n W t k * W k = goR n W t k * (1 - W k) := by grind
  have eb : goL n W t (k + 1) - goL n W t (k + 1) * W k = goL n W t (k + 1) * (1 - W k) := by grind
  exact ⟨go0 _ a2 a1, sw _ wd w, go0 _ b2 b1, go _ (up _ _ (.inl rfl) a2 wd) (a1.mul w), by rw [ea]; exact go _ (up _ _ (.inl rfl) a2 vd) (a1.mul w.co), go _ (up _ _ (.inr rfl) b2 wd) (b1.mul w), by rw [eb]; exact go _ (up _ _ (.inr rfl) b2 vd) (b1.mul w.co),
    sw _ vd w.co, go _ (up _ _ (.inl rfl) a2 vd) (a1.mul w.co), go _ (up _ _ (.inr rfl) b2 vd) (b1.mul w.co)⟩
/-! what comes through -/
theorem thru_two {d : Nat → Nat} {n : Nat} {W : Nat → Rat} (g : Good2 d n W) : ∀ i, i ≤ n → IsD (prodTo d i) (thru W i)
  | 0, _ => IsD.one _
  | i + 1, h => (thru_two g i (by omega)).mul ((IsD.one _).sub (g.d i (by omega)))
theorem num_le4 {D : Nat} {q : Rat} (hD : 0 < D) (h : IsD D q) (h0 : -4 ≤ q) (h1 : q ≤ 4) : q.num.natAbs ≤ 4 * D := by
  obtain ⟨z, h⟩ := h
  have e := IsD.eq hD h
  have b : z.natAbs ≤ 4 * D := by
    have p := nat_pos hD
    have e4 : (((4 * D : Nat) : Int) : Rat) = 4 * (D : Rat) := by
      have : (((4 * D : Nat) : Int) : Rat) = ((4 * D : Nat) : Rat) := rfl
      rw [this, Rat.natCast_mul]
      rfl
    have c1 : (z : Rat) ≤ (((4 * D : Nat) : Int) : Rat) := by
      rw [← h, e4]
      exact Rat.mul_le_mul_of_nonneg_right h1 (Rat.le_of_lt p)
    have c2 : ((-((4 * D : Nat) : Int) : Int) : Rat) ≤ (z : Rat) := by
      rw [← h, Rat.intCast_neg, e4]
      have := Rat.mul_le_mul_of_nonneg_right h0 (Rat.le_of_lt p)
      grind
    have d1 := cast_le c1
    have d2 := cast_le c2
    omega
  rw [e]
  exact Nat.le_trans (mk_num_le (by omega)) b
theorem sm_of4 {D : Nat} {q : Rat} (hD : 0 < D) (hl : 4 * D < 2 ^ 4500) (h : IsD D q) (h0 : -4 ≤ q) (h1 : q ≤ 4) : Sm q :=
  ⟨Nat.lt_of_le_of_lt (num_le4 hD h h0 h1) hl, Nat.lt_of_le_of_lt (h.den hD) (by omega)⟩
end Ef
namespace Ef
theorem isD_self (q : Rat) : IsD q.den q := by
  refine ⟨q.num, ?_⟩
  have hd := nz_cast (den_pos q)
  have e : q = (q.num : Rat) / (q.den : Rat) := by
    rw [← Rat.mkRat_eq_div, Rat.mkRat_self]
  have r : (q.num : Rat) / (q.den : Rat) * (q.den : Rat) = q.num := Rat.div_mul_cancel hd
  rwa [← e] at r
def dens (ws : List Rat) (i : Nat) : Nat := (at0 ws i).den
theorem good_two {ws : List Rat} (h : ∀ q ∈ ws, In01 q) : Good2 (dens ws) ws.length (at0 ws) :=
  ⟨fun k _ => den_pos _, fun k hk => h _ (List.mem_of_getElem? (at0_get hk)), fun k _ => isD_self _⟩
theorem prod_sq {d : Nat → Nat} {n : Nat} : prodTo d n * prodTo d n ∣ DD d n (2 * n + 1) := by
  have e : ∀ m, prodTo d m * prodTo d m = prodTo (fun i => d i * d i) m := by
    intro m
    induction m with
    | zero => rfl
    | succ m ih =>
      show prodTo d m * d m * (prodTo d m * d m) = prodTo (fun i => d i * d i) m * (d m * d m)
      rw [← ih]
      simp only [Nat.mul_assoc, Nat.mul_comm, Nat.mul_left_comm]
  rw [e]
  refine prodTo_dvd fun i hi => ?_
  have e2 : d i * d i = d i ^ 2 := (Nat.pow_two (d i)).symm
  rw [e2]
  exact Nat.pow_dvd_pow _ (by omega)
/-- how large the bottom of the next part may be -/
theorem part_den {ws : List Rat} (h : ∀ q ∈ ws, In01 q) (r : Rat) (h0 : thruOf ws ≠ 0) : (partOf ws r).den ≤ r.den * DD (dens ws) ws.length (2 * ws.length + 1) := by
  have g := good_two h
  have dpos : 0 < prodTo (dens ws) ws.length := prodTo_pos g.dp
  obtain ⟨z, ez⟩ := thru_two g ws.length (Nat.le_refl _)
  have ti := thru_in (W := at0 ws) (j := ws.length) g.i
  obtain ⟨U, eU⟩ := prod_sq (d := dens ws) (n := ws.length)
  have k := (state_two g (2 * ws.length + 1) 0 (Nat.zero_le _)).2
  have rk : IsD (r.den * DD (dens ws) ws.length (2 * ws.length + 1)) (r - knownOf ws) := by
    refine IsD.sub ((isD_self r).dvd ⟨_, rfl⟩) (IsD.dvd k ⟨r.den, Nat.mul_comm _ _⟩)
  obtain ⟨a, ea⟩ := rk
  have hth : thruOf ws = thru (at0 ws) ws.length * thru (at0 ws) ws.length := rfl
  have qe : partOf ws r * thruOf ws = r - knownOf ws := Rat.div_mul_cancel h0
  rw [eU] at ea ⊢
  generalize partOf ws r = q at qe ⊢
  generalize prodTo (dens ws) ws.length = T at ez ea dpos ⊢
  rw [hth] at h0 qe
  generalize thru (at0 ws) ws.length = θ at ez qe h0 ti
  have Tp := nat_pos dpos
  have z0 : z ≠ 0 := fun e => by
    rw [e] at ez
    have e0 : θ * (T : Rat) = 0 := ez
    rcases Rat.mul_eq_zero.mp e0 with y | y
    · rw [y] at h0
      exact h0 (by grind)
    · exact nz_cast dpos y
  have zl : z.natAbs ≤ T := by
    have c1 : (z : Rat) ≤ ((T : Int) : Rat) := by
      rw [← ez]
      have := Rat.mul_le_mul_of_nonneg_right ti.2 (Rat.le_of_lt Tp)
      have e : (((T : Nat) : Int) : Rat) = (T : Rat) := rfl
      grind
    have c2 : ((0 : Int) : Rat) ≤ (z : Rat) := by
      rw [← ez]
      exact Rat.mul_nonneg ti.1 (Rat.le_of_lt Tp)
    have d1 := cast_le c1
    have d2 := cast_le c2
    omega
  have zn : ((z.natAbs : Nat) : Rat) = (z : Rat) := by
    have c2 : ((0 : Int) : Rat) ≤ (z : Rat) := by
      rw [← ez]
      exact Rat.mul_nonneg ti.1 (Rat.le_of_lt Tp)
    have d2 := cast_le c2
    have e : ((z.natAbs : Nat) : Rat) = (((z.natAbs : Nat) : Int) : Rat) := rfl
    rw [e, show ((z.natAbs : Nat) : Int) = z by omega]
  by_cases hU : U = 0
  · subst hU
    have p1 : 0 < T * T := Nat.mul_pos dpos dpos
    have p2 : 0 < DD (dens ws) ws.length (2 * ws.length + 1) := prodTo_pos fun i hi => Nat.pow_pos (g.dp i hi)
    rw [eU] at p2
    omega
  have Np : 0 < z.natAbs * z.natAbs * (r.den * U) := Nat.mul_pos (Nat.mul_pos (by omega) (by omega)) (Nat.mul_pos (den_pos r) (Nat.pos_of_ne_zero hU))
  have qD : IsD (z.natAbs * z.natAbs * (r.den * U)) q := by
    refine ⟨a, ?_⟩
    rw [← ea, ← qe, Rat.natCast_mul, Rat.natCast_mul, Rat.natCast_mul, Rat.natCast_mul, Rat.natCast_mul, Rat.natCast_mul, zn, ← ez]
    grind
  refine Nat.le_trans (qD.den Np) ?_
  have m := Nat.mul_le_mul zl zl
  have e : r.den * (T * T * U) = T * T * (r.den * U) := by
    simp only [Nat.mul_assoc, Nat.mul_comm, Nat.mul_left_comm]
  rw [e]
  exact Nat.mul_le_mul_right _ m
/-! in bits -/
def bits (b : Nat → Nat) (n t : Nat) : Nat := match n with
  | 0 => 0
  | n + 1 => bits b n t + b n * ((t + 1 - n) / 2)
theorem DD_bits {d b : Nat → Nat} {t : Nat} : ∀ {n : Nat}, (∀ i, i < n → d i < 2 ^ b i) → DD d n t ≤ 2 ^ bits b n t
  | 0, _ => Nat.le_refl _
  | n + 1, h => by
    have ih := DD_bits (n := n) (t := t) fun i hi => h i (by omega)
    show prodTo (pw d t) n * d n ^ ((t + 1 - n) / 2) ≤ 2 ^ (bits b n t + b n * ((t + 1 - n) / 2))
    rw [Nat.pow_add, Nat.pow_mul]
    exact Nat.mul_le_mul ih (Nat.pow_le_pow_left (Nat.le_of_lt (h n (by omega))) _)
def bitsT (b : Nat → Nat) : Nat → Nat
  | 0 => 0
  | n + 1 => bitsT b n + b n
theorem prod_bits {d b : Nat → Nat} : ∀ {n : Nat}, (∀ i, i < n → d i < 2 ^ b i) → prodTo d n ≤ 2 ^ bitsT b n
  | 0, _ => Nat.le_refl _
  | n + 1, h => by
    have ih := prod_bits (n := n) fun i hi => h i (by omega)
    show prodTo d n * d n ≤ 2 ^ (bitsT b n + b n)
    rw [Nat.pow_add]
    exact Nat.mul_le_mul ih (Nat.le_of_lt (h n (by omega)))
/-- what stands in a record -/
structure RecOk (rs : List Rat) : Prop where
  rg : ∀ q ∈ rs, 0 ≤ q ∧ q ≤ 2
  dn : ∀ t, t < rs.length → (at0 rs t).den < 2 ^ (6 * t + 6)
/-- sizes with bits b -/
theorem next_two {ws : List Rat} {r : Rat} {b : Nat → Nat} {e : Nat} (h : ∀ q ∈ ws, In01 q) (hb : ∀ i, i < ws.length → dens ws i < 2 ^ b i) (r0 : 0 ≤ r) (r2 : r ≤ 2) (hr : r.den < 2 ^ e)
    (h1 : bits b ws.length (2 * ws.length + 2) + e + 4 < 4500) (h2 : 2 * bitsT b ws.length < 4500) (h3 : ∀ i, i < ws.length → 2 * b i < 4500) : NextOk ws r := by
  have g := good_two h
  have lt : ∀ {x k : Nat}, x ≤ 2 ^ k → k < 4500 → x < 2 ^ 4500 := fun hx hk => Nat.lt_of_le_of_lt hx (Nat.pow_lt_pow_right (by decide) hk)
  have dd := DD_bits (d := dens ws) (t := 2 * ws.length + 2) hb
  have ddp : ∀ t, 0 < DD (dens ws) ws.length t := fun t => prodTo_pos fun i hi => Nat.pow_pos (g.dp i hi)
  have dd1 : DD (dens ws) ws.length (2 * ws.length + 1) ≤ 2 ^ bits b ws.length (2 * ws.length + 2) := Nat.le_trans (Nat.le_of_dvd (ddp _) (DD_mono (by omega))) dd
  have st := state_two g (2 * ws.length + 1) 0 (Nat.zero_le _)
  have si := state_in g.i (2 * ws.length + 1) 0 (Nat.zero_le _)
  refine ⟨run_two g (lt dd (by omega)) fun k hk => lt (Nat.le_of_lt (hb k hk)) (by have := h3 k hk; omega), fun q hq => ?_, fun i hi => ?_, sm_of (ddp _) (lt dd1 (by omega)) st.2 si.2.neg1 si.2.2, ?_⟩
  · obtain ⟨k, hk, ek⟩ := List.mem_iff_getElem.mp hq
    have e1 : at0 ws k = q := by
      have := at0_get hk
      rw [List.getElem?_eq_getElem hk, ek] at this
      exact (Option.some.inj this).symm
    have dq : q.den < 2 ^ b k := by
      have := hb k hk
      unfold dens at this
      rwa [e1] at this
    have bk := h3 k hk
    have i01 := h q hq
    have m := i01.co.mul i01.co
    have l1 : q.den < 2 ^ 4500 := lt (Nat.le_of_lt dq) (by omega)
    have l2 : q.den * q.den < 2 ^ 4500 := by
      refine lt (k := b k + b k) ?_ (by omega)
      rw [Nat.pow_add]
      exact Nat.mul_le_mul (Nat.le_of_lt dq) (Nat.le_of_lt dq)
    have s := isD_self q
    have s1 := (IsD.one _).sub s
    exact ⟨sm_of (den_pos q) l1 s i01.neg1 i01.2, sm_of (den_pos q) l1 s1 i01.co.neg1 i01.co.2, sm_of (Nat.mul_pos (den_pos q) (den_pos q)) l2 (s1.mul s1) m.neg1 m.2⟩
  · have a := thru_in (W := at0 ws) (j := i) fun k hk => g.i k (by omega)
    have t1 := thru_two g i hi
    have m := a.mul a
    have pb := prod_bits (d := dens ws) (n := i) fun k hk => hb k (by omega)
    have mono : ∀ n i, i ≤ n → bitsT b i ≤ bitsT b n := by
      intro n
      induction n with
      | zero => intro i hi; rw [Nat.le_zero.mp hi]; exact Nat.le_refl _
      | succ n ih =>
        intro i hi
        by_cases e : i = n + 1
        · rw [e]; exact Nat.le_refl _
        · exact Nat.le_trans (ih i (by omega)) (Nat.le_add_right _ _)
    have mm := mono ws.length i hi
    have pp : 0 < prodTo (dens ws) i := prodTo_pos fun k hk => g.dp k (by omega)
    have l2 : prodTo (dens ws) i * prodTo (dens ws) i < 2 ^ 4500 := by
      refine lt (k := bitsT b i + bitsT b i) ?_ (by omega)
      rw [Nat.pow_add]
      exact Nat.mul_le_mul pb pb
    exact sm_of (Nat.mul_pos pp pp) l2 (t1.mul t1) m.neg1 m.2
  · have k1 := si.2.1
    have k2 := si.2.2
    have rk : IsD (r.den * DD (dens ws) ws.length (2 * ws.length + 1)) (r - knownOf ws) := by
      refine IsD.sub ((isD_self r).dvd ⟨_, rfl⟩) (IsD.dvd st.2 ⟨r.den, Nat.mul_comm _ _⟩)
    refine sm_of4 (Nat.mul_pos (den_pos r) (ddp _)) ?_ rk ?_ ?_
    · have m := Nat.mul_le_mul (Nat.le_of_lt hr) dd1
      rw [← Nat.pow_add] at m
      have m4 : 4 * (r.den * DD (dens ws) ws.length (2 * ws.length + 1)) ≤ 2 ^ (e + bits b ws.length (2 * ws.length + 2) + 2) := by
        rw [Nat.pow_add 2 _ 2]
        omega
      exact lt m4 (by omega)
    · show -4 ≤ r - goL ws.length (at0 ws) (2 * ws.length + 1) 0
      grind
    · show r - goL ws.length (at0 ws) (2 * ws.length + 1) 0 ≤ 4
      grind
end Ef
namespace Ef
/-- bits of the bottoms of the first four walls -/
def beta : Nat → Nat
  | 0 => 12
  | 1 => 48
  | 2 => 168
  | _ => 744
theorem dens_push {ws : List Rat} {q : Rat} : (∀ i, i < ws.length → dens (ws ++ [q]) i = dens ws i) ∧ dens (ws ++ [q]) ws.length = q.den := by
  unfold dens at0
  refine ⟨fun i hi => ?_, ?_⟩
  · rw [List.getD_eq_getElem?_getD, List.getD_eq_getElem?_getD, List.getElem?_append_left hi]
  · rw [List.getD_eq_getElem?_getD, List.getElem?_append_right (Nat.le_refl _), Nat.sub_self]
    rfl
theorem next_den {ws : List Rat} {r q : Rat} {b : Nat → Nat} {e : Nat} (h : ∀ q ∈ ws, In01 q) (hb : ∀ i, i < ws.length → dens ws i < 2 ^ b i) (hr : r.den < 2 ^ e) (hq : nextP ws r = some q) : q.den < 2 ^ (e + bits b ws.length (2 * ws.length + 1)) := by
  have p1 : 0 < 2 ^ (e + bits b ws.length (2 * ws.length + 1)) := Nat.pow_pos (by decide)
  unfold nextP at hq
  split at hq
  · cases hq
    have d1 : (0 : Rat).den = 1 := rfl
    rw [d1]
    by_cases he : e = 0
    · subst he
      have := den_pos r
      omega
    · exact Nat.one_lt_two_pow (by omega)
  · rename_i h0
    split at hq
    · cases hq
      refine Nat.lt_of_le_of_lt (part_den h r h0) ?_
      have dd := DD_bits (d := dens ws) (t := 2 * ws.length + 1) hb
      have ddp : 0 < DD (dens ws) ws.length (2 * ws.length + 1) := prodTo_pos fun i hi => Nat.pow_pos ((good_two h).dp i hi)
      rw [Nat.pow_add]
      exact Nat.lt_of_lt_of_le (Nat.mul_lt_mul_of_pos_right hr ddp) (Nat.mul_le_mul_left _ dd)
    · cases hq
theorem beta_step : ∀ j, j < 4 → 6 * (2 * j + 1) + 6 + bits beta j (2 * j + 1) ≤ beta j := by decide
theorem beta_next : ∀ j, j < 4 → bits beta j (2 * j + 2) + (6 * (2 * j + 1) + 6) + 4 < 4500 ∧ 2 * bitsT beta j < 4500 := by decide
theorem beta_run : ∀ j, j < 5 → bits beta j 8 < 4500 := by decide
theorem beta_le (i : Nat) : beta i ≤ 744 := by
  unfold beta
  split <;> omega
theorem reach_bits {rs ws : List Rat} (rec : RecOk rs) (h8 : rs.length ≤ 8) (h : Reach rs ws) : ∀ i, i < ws.length → dens ws i < 2 ^ beta i := by
  induction h with
  | nil => intro i hi; simp at hi
  | @step us q hr l e ih =>
    intro i hi
    rw [List.length_append, List.length_singleton] at hi
    by_cases c : i < us.length
    · rw [dens_push.1 i c]
      exact ih i c
    · have ei : i = us.length := by omega
      subst ei
      rw [dens_push.2]
      have nd := next_den (e := 6 * (2 * us.length + 1) + 6) hr.all_in ih (rec.dn _ l) e
      exact Nat.lt_of_lt_of_le nd (Nat.pow_le_pow_right (by decide) (beta_step us.length (by omega)))
theorem told_ok9 {rs : List Rat} (rec : RecOk rs) (h8 : rs.length ≤ 8) (hsm : ∀ q ∈ rs, Sm q) : ToldOk rs := by
  refine ⟨hsm, fun ws h l => ?_, fun ws h l => ?_⟩
  · have b := reach_bits rec h8 h
    obtain ⟨n1, n2⟩ := beta_next ws.length (by omega)
    have rg := rec.rg _ (List.mem_of_getElem? (at0_get l))
    exact next_two h.all_in b rg.1 rg.2 (rec.dn _ l) n1 n2 fun i hi => by have := beta_le i; omega
  · have b := reach_bits rec h8 h
    have dd := DD_bits (d := dens ws) (t := 8) b
    have g := good_two h.all_in
    have n := beta_run ws.length (by have := h.len; omega)
    have d8 : DD (dens ws) ws.length rs.length ≤ DD (dens ws) ws.length 8 := Nat.le_of_dvd (prodTo_pos fun i hi => Nat.pow_pos (g.dp i hi)) (DD_mono h8)
    refine run_two g (Nat.lt_of_le_of_lt (Nat.le_trans d8 dd) (Nat.pow_lt_pow_right (by decide) n)) fun k hk => ?_
    exact Nat.lt_of_lt_of_le (b k hk) (Nat.pow_le_pow_right (by decide) (by have := beta_le k; omega))
theorem Reach.len2 {rs ws : List Rat} (h : Reach rs ws) : 2 * ws.length ≤ rs.length := h.len
theorem rec_sm {rs : List Rat} (h : RecOk rs) (h16 : rs.length ≤ 16) : ∀ q ∈ rs, Sm q := fun q hq => by
  obtain ⟨k, hk, ek⟩ := List.mem_iff_getElem.mp hq
  have e1 : at0 rs k = q := by
    have := at0_get hk
    rw [List.getElem?_eq_getElem hk, ek] at this
    exact (Option.some.inj this).symm
  have d := h.dn k hk
  rw [e1] at d
  obtain ⟨a, b⟩ := h.rg q hq
  have d2 : q.den < 2 ^ 102 := Nat.lt_of_lt_of_le d (Nat.pow_le_pow_right (by decide) (by omega))
  refine sm_of4 (den_pos q) ?_ (isD_self q) (by grind) (by grind)
  exact Nat.lt_of_lt_of_le (show 4 * q.den < 2 ^ 104 by omega) (Nat.pow_le_pow_right (by decide) (by decide))
theorem at0_set {rs : List Rat} {i j : Nat} {q : Rat} (hj : j < rs.length) : at0 (rs.set i q) j = if i = j then q else at0 rs j := by
  unfold at0
  rw [List.getD_eq_getElem?_getD, List.getD_eq_getElem?_getD, List.getElem?_set]
  split
  · rename_i h
    rw [if_pos (by omega)]
    rfl
  · rfl
theorem RecOk.set {rs : List Rat} (h : RecOk rs) {i : Nat} {q : Rat} (h0 : 0 ≤ q) (h2 : q ≤ 2) (hd : q.den < 2 ^ (6 * i + 6)) : RecOk (rs.set i q) := by
  refine ⟨fun p hp => ?_, fun t ht => ?_⟩
  · rcases List.mem_or_eq_of_mem_set hp with e | e
    · exact h.rg p e
    · rw [e]
      exact ⟨h0, h2⟩
  · rw [List.length_set] at ht
    rw [at0_set ht]
    split
    · rename_i e
      rw [← e]
      exact hd
    · exact h.dn t ht
theorem RecOk.push {rs : List Rat} (h : RecOk rs) {q : Rat} (h0 : 0 ≤ q) (h2 : q ≤ 2) (hd : q.den < 2 ^ (6 * rs.length + 6)) : RecOk (rs ++ [q]) := by
  refine ⟨fun p hp => ?_, fun t ht => ?_⟩
  · rcases List.mem_append.mp hp with e | e
    · exact h.rg p e
    · rw [List.mem_singleton.mp e]
      exact ⟨h0, h2⟩
  · rw [List.length_append, List.length_singleton] at ht
    by_cases c : t < rs.length
    · have e : at0 (rs ++ [q]) t = at0 rs t := by
        unfold at0
        rw [List.getD_eq_getElem?_getD, List.getD_eq_getElem?_getD, List.getElem?_append_left c]
      rw [e]
      exact h.dn t c
    · have et : t = rs.length := by omega
      subst et
      have e : at0 (rs ++ [q]) rs.length = q := by
        unfold at0
        rw [List.getD_eq_getElem?_getD, List.getElem?_append_right (Nat.le_refl _), Nat.sub_self]
        rfl
      rw [e]
      exact hd
theorem toldGo_len {rs : List Rat} : ∀ {n : Nat} {ws ds : List Rat}, toldGo rs n ws = some ds → ds.length = ws.length + n
  | 0, ws, ds, h => by
    rw [toldGo_end] at h
    split at h
    · cases h
      rfl
    · cases h
  | n + 1, ws, ds, h => by
    cases e : nextP ws (at0 rs (2 * ws.length + 1)) with
    | none =>
      rw [toldGo_none e] at h
      cases h
    | some q =>
      rw [toldGo_some e] at h
      have := toldGo_len h
      rw [List.length_append, List.length_singleton] at this
      omega
theorem pow_line (t e : Nat) (he : e ≤ 63) : 60 ^ t * e < 2 ^ (6 * t + 6) := by
  have a : 60 ^ t ≤ 64 ^ t := Nat.pow_le_pow_left (by decide) t
  have p : 0 < 64 ^ t := Nat.pow_pos (by decide)
  have e1 : 2 ^ (6 * t + 6) = 64 ^ t * 64 := by
    rw [Nat.pow_add, Nat.pow_mul]
  rw [e1]
  exact Nat.lt_of_le_of_lt (Nat.mul_le_mul a he) (by omega)
theorem rec_ears {ws : List Rat} (g : GoodL 60 ws) (m : Nat) : RecOk (ears ws.length (at0 ws) m) ∧ ∀ t, t < m → In01 (at0 (ears ws.length (at0 ws) m) t) ∧ IsD (60 ^ t) (at0 (ears ws.length (at0 ws) m) t) := by
  have st : ∀ t, t < m → In01 (at0 (ears ws.length (at0 ws) m) t) ∧ IsD (60 ^ t) (at0 (ears ws.length (at0 ws) m) t) := fun t ht => by
    rw [ears_at _ _ ht]
    exact (state_good g.good t 0 (Nat.zero_le _)).2
  refine ⟨⟨fun q hq => ?_, fun t ht => ?_⟩, st⟩
  · obtain ⟨t, ht, rfl⟩ := List.mem_map.mp hq
    have a := (state_good g.good t 0 (Nat.zero_le _)).2.1
    have a1 := a.1
    have a2 := a.2
    exact ⟨a1, by grind⟩
  · rw [ears_len] at ht
    have := (st t ht).2.den (Nat.pow_pos (by decide))
    have p := pow_line t 1 (by decide)
    omega
theorem one_over {b : Nat} (hb : b ≠ 0) : (mkRat 1 b).num = 1 ∧ (mkRat 1 b).den = b := by
  rw [num_mk hb, den_mk hb]
  have e : (1 : Int).natAbs.gcd b = 1 := Nat.gcd_one_left b
  rw [e]
  exact ⟨by decide, Nat.div_one b⟩
end Ef
namespace Ef
open PySem PySem.Spec PyProof.Rows L2
def partP (ws : List Rat) (r : Rat) : Rat := if thruOf ws = 0 then 0 else partOf ws r
theorem partP_yes {ws : List Rat} {r : Rat} (h : In01 (partP ws r)) : nextP ws r = some (partP ws r) := by
  unfold partP nextP at *
  split
  · rfl
  · rename_i hn
    rw [if_neg hn] at h
    rw [if_pos h]
theorem partP_no {ws : List Rat} {r : Rat} (h : ¬ In01 (partP ws r)) : nextP ws r = none := by
  unfold partP nextP at *
  split
  · rename_i hn
    rw [if_pos hn] at h
    exact absurd in01_zero h
  · rename_i hn
    rw [if_neg hn] at h
    rw [if_neg h]
theorem over_pos {a θ : Rat} (h0 : 0 ≤ θ) (hn : θ ≠ 0) : ∃ b : Nat, (a.den : Int) * θ.num = (b : Int) ∧ b ≠ 0 ∧ b = a.den * θ.num.natAbs ∧ mkRat (a.num * (θ.den : Int)) b = a / θ := by
  have p : 0 < θ.num := by
    have := Rat.num_nonneg.mpr h0
    have h1 : θ.num ≠ 0 := fun e => hn (Rat.num_eq_zero.mp e)
    omega
  have pp : 0 < (a.den : Int) * θ.num := Int.mul_pos (den_posI a) p
  refine ⟨((a.den : Int) * θ.num).toNat, by omega, by omega, ?_, ?_⟩
  · have e : θ.num = (θ.num.natAbs : Int) := by omega
    rw [e, ← Int.natCast_mul, Int.toNat_natCast]
    rfl
  · rw [← divInt_pos pp, over_mk]
def spLFound (K : PySem.W.Frag) : Sp := fun vs H Q _ => ∃ (lr : Addr) (rs : List Rat), vs = [.ref lr] ∧ RL K H lr rs ∧ rs.length % 2 = 0 ∧ rs.length ≤ 16 ∧ ToldOk rs ∧
  (∀ ws, told rs = some ws → ∀ m H', Same H H' → H m = none → RL K H' m ws → Q (.ref m) H') ∧ (told rs = none → ∀ H', Same H H' → Q .non H')
end Ef
namespace Ef
open PySem PySem.Spec PyProof.Rows L2
/-! ### refusals: raised, caught, their kinds asked -/
abbrev CXN : Program → World → CXT := fun P w => L2N.CX P w
/-- isinstance of the exception at a, which the context bears -/
theorem call_isP {X : Cx} {a D : Addr} {oe : Obj} (hp : (a, oe) ∈ X.pn) (C : ExcC X.K D) (hz : Zc (.ref D) none oe) (hf : ∃ vs, oe.data = .fields vs) : CallR X (.builtin "isinstance") (rIsE X.K D a) := by
  intro pins s σ H xs us Q I r ⟨c, cv, b, exs, hcv, ek, q⟩
  subst exs
  match us, r with
  | [_, _], .cons e1 (.cons e2 .nil) =>
    obtain rfl := e1
    obtain rfl := hcv _ e2
    have there := (I.pin (a, oe) (List.mem_append_left _ hp)).1
    have J : PySem.W.InstAt s.heap a oe D none := by
      revert there hz hf
      cases oe with
      | mk k1 k2 k3 k4 =>
        rintro ⟨g1, g2⟩ ⟨ws, g3⟩ there
        have g1 : k1 = _ := g1
        have g2 : k2 = _ := g2
        have g3 : k3 = _ := g3
        subst g1 g2 g3
        exact ⟨there, rfl, rfl, trivial⟩
    exact PySem.W.kia_one (PySem.W.handS_kitx_exc C.hg C.hk C.hs C.hd C.ha C.hn C.ht C.hm) I.kIn J ek (fun z => nomatch z) fun tk => ⟨.bl b, H, I.kept (t' := tk) (fun _ _ same => same), rfl, q⟩
/-- a def that is handed the exception that is handled, of the class at D -/
structure FnE (P : Program) (w : World) (K : PySem.W.Frag) (mg : Str → Option Value) (base : Heap) (D : Addr) (k : Nat) (f : Addr) (fd : FuncData) (ps : List Str) (sp : Addr → Sp) : Prop where
  len : ∀ a vs H Q E, sp a vs H Q E → vs.length = ps.length
  run : ∀ (A : Around) (outer : List Env) (s : Shared) (H : Hp) (args : Args) (us : List Value) (vs : List V) (Q : VK) (E : XK) (p : Addr × Obj), L2H.RoomH k A → L2H.Hot1 A p → Zc (.ref D) none p.2 → L2H.PinOk outer H s p → Env0 P w K mg base A outer s H →
    BindsTo s fd args (ps.zip us) → Vals vs us → sp p.1 vs H Q E → codeAny (model P w) A (.call (.ref f) args) (CR CX0 outer P w H s Q E) s
theorem fne_of {P : Program} {w : World} {K : PySem.W.Frag} {mg : Str → Option Value} {base : Heap} {D : Addr} {k : Nat} {f : Addr} {fd : FuncData} {x : Str} {st : Stmt} {N ps : List Str} {sp : Addr → Sp} (F : FnP K x x st f fd) (S : FnScope N ps (defScope st))
    (len : ∀ a vs H Q E, sp a vs H Q E → vs.length = ps.length)
    (body : ∀ (cdv : Value) (A : Around) (outer : List Env) (s : Shared) (H : Hp) (vs : List V) (Q : VK) (E : XK) (p : Addr × Obj), L2H.Hot1 A p → Zc (.ref D) none p.2 → L2H.RoomH k (A.deeper (envOfC x (defScope st) s.heap.objs.size f cdv)) → sp p.1 vs H Q E →
      ∃ t, PSs (L2H.cxH CX0 P w K mg base N x (defScope st) f cdv A outer s H E p) (defBody st) t ∧ t { nx := fun _ H' => Q .non H', rt := Q } (L2.start N vs) H) :
    FnE P w K mg base D (k + 1) f fd ps sp := by
  obtain ⟨oc, od, dV, kV, doc, pm, an, cdv, ct, osl, efd, lk, hcd, hd, hk⟩ := F.ex
  subst efd
  refine ⟨len, fun A outer s H args us vs Q E p room hot cls pin e0 hb rv hsp => ?_⟩
  have arity := len _ _ _ _ _ hsp
  have inK : K.In s.heap := e0.mod.kin.keeps (fun b o y => (e0.bs b o y).1)
  have nolim : s.heap.NoLimit := e0.mod.nolimit.keeps (fun b o y => (e0.bs b o y).1)
  have own : ∀ y ∈ ps.zip us, (defScope st).names.lookup y.1 = some .local ∨ ((defScope st).names.lookup y.1 = some .cell ∧ ((cellsFrom (s.heap.objs.size + 1) (defScope st).names []).lookup y.1).isSome = true) := by
    rintro ⟨nm, u⟩ hy
    cases S.par nm (List.of_mem_zip hy).1 with
    | inl q => exact Or.inl q
    | inr q => exact Or.inr ⟨q, PySem.W.cellsFrom_some _ _ _ (Or.inl q)⟩
  refine codeAny_call_function room.depth (inK _ _ lk) rfl S.co S.gen rfl (PySem.W.codeRec_of inK hcd) (hb _ _ _ _ ?_)
  refine wpAny_newFunctionEnv_cells S.kind own fun env he s1 started => ?_
  subst he
  refine ⟨nolim.keeps started.toInCall.keep, codeAny_func ?_⟩
  obtain ⟨t, walk, ask⟩ := body cdv A outer s H vs Q E p hot cls (room.deeper _) hsp
  have I : Inv (L2H.cxH CX0 P w K mg base N x (defScope st) f cdv A outer s H E p) [] (L2.start N vs) H s1 := L2H.inv_startH S pin e0 arity rv started
  refine wpAny_mono (walk.run [] s1 (L2.start N vs) H _ I ask) ?_ (fun _ _ out => out)
  intro fl s2 ended
  have back : ∀ {σ2 : L2.St} {H2 : Hp} {v : V} {u : Value}, Inv (L2H.cxH CX0 P w K mg base N x (defScope st) f cdv A outer s H E p) [] σ2 H2 s2 → RelV v u → Q v H2 → CE outer P w H s Q u s2 := by
    intro σ2 H2 v u J r q
    exact ⟨v, H2, J.os, J.bare, J.base, J.hok, r, q⟩
  cases fl with
  | next =>
    obtain ⟨σ2, H2, J, q⟩ := ended
    exact back (v := V.non) (u := Value.none) J rfl q
  | ret u =>
    obtain ⟨v, σ2, H2, J, r, q⟩ := ended
    exact back J r q
  | brk =>
    obtain ⟨_, _, _, q⟩ := ended
    exact q.elim
  | cont =>
    obtain ⟨_, _, _, q⟩ := ended
    exact q.elim
section
variable {X : Cx} {k : Nat} {f D a : Addr} {fd : FuncData} {oe : Obj} {ps : List Str} {sp : Addr → Sp} {x : Str} {q pos : Pos} {e : Expr} {es : List Expr} {t : TA}
/-- its call within the suite -/
theorem pe_callE (F : FnE X.prog X.w X.K X.mg X.base D k f fd ps sp) (hr : L2H.RoomH k X.A) (hh : X.A.handled = some (.ref a)) (hp : (a, oe) ∈ X.pn) (hz : L2N.Zn (.ref D) none oe) (hf : ∃ vs, oe.data = .fields vs)
    (hg : Gl X x) (hm : X.mg x = some (.ref f)) (hk : PySem.W.keepIn X.K (.ref f) = true) (hb : Binds X.K fd ps []) (ha : PA X (e :: es) t) (hdb : (x == ("__debug__" : Str)) = false := by decide)
    (he : starEach (e :: es) X.env = (false, eval e X.env) :: starEach es X.env := by rfl) (hpl : (backTo pos (starEach es X.env)).any (·.1) = false := by rfl) :
    PE X (.Call (.Name x q) (e :: es) [] pos) (fun σ H Q => t σ H fun vs H1 => sp a vs H1 Q E0) := by
  constructor
  intro pins s σ H Q I h
  refine wpAny_Call_Name_kw (ld_glob I hg hm ?_ hdb)
  refine PySem.W.callWith_K (h₀ := X.base) I.ok.mod.kin hk (thn (ha.run pos pins s σ H _ I h) ?_) he hpl
  intro us s1 got
  obtain ⟨vs, H1, I1, r, q1⟩ := got
  refine ⟨I1.kIn, ?_⟩
  obtain ⟨ws, ew⟩ := hf
  have hot : L2H.Hot1 X.A (a, oe) := ⟨hh, ws, ew, hz.2.2 ws ew⟩
  have arity : us.length = ps.length := (r.length.symm).trans (F.len _ _ _ _ _ q1)
  have bs := hb s1 us I1.kIn ((congrArg List.length (List.append_nil us)).trans arity)
  rw [List.append_nil] at bs
  have P1 := I1.pin (a, oe) (List.mem_append_left _ hp)
  have pinned : L2H.PinOk X.stack H1 s1 (a, oe) := by
    refine ⟨P1.1, P1.2.1, fun hm => ?_, P1.2.2.2.2⟩
    cases List.mem_cons.mp (I1.stkSub a hm) with
    | inl y => exact P1.2.2.1 y
    | inr y => exact P1.2.2.2.1 y
  refine wpAny_call (codeAny_mono (F.run X.A X.stack s1 H1 ⟨us, []⟩ us vs Q E0 (a, oe) hr hot hz.zc pinned I1.env0 bs r q1) ?_)
  intro rr s2 hq
  match rr, hq with
  | .ok (.ret u), hq => exact I1.after hq
  | .ok .next, hq => exact hq.elim
  | .ok .brk, hq => exact hq.elim
  | .ok .cont, hq => exact hq.elim
  | .error u, hq => exact pass0 pins σ H1 s1 u s2 I1 hq
end
/-! ### the kinds -/
/-- of which of the refusals' classes the class at D is -/
structure KindAt (K : PySem.W.Frag) (D : Addr) (j : Nat) : Prop where
  ec : ExcC K D
  k0 : PySem.W.kitOne K (.ref D) (.ref (He.ga K "NoField")) = some (j == 0)
  k1 : PySem.W.kitOne K (.ref D) (.ref (He.ga K "NoMoment")) = some (j == 1)
  k2 : PySem.W.kitOne K (.ref D) (.ref (He.ga K "NoRecord")) = some (j == 2)
  k3 : PySem.W.kitOne K (.ref D) (.ref (He.ga K "TooMany")) = some (j == 3)
  k4 : PySem.W.kitOne K (.ref D) (.ref (He.ga K "BadText")) = some (j == 4)
  kv : PySem.W.kitOne K (.ref D) (.type "ValueError") = some true
def kindB (K : PySem.W.Frag) (D : Addr) (j : Nat) : Bool :=
  He.eqO (PySem.W.findIn K (.ref D) "__getattribute__") (some (some (.builtin "BaseException.__getattribute__"))) && He.eqO (PySem.W.findIn K (.ref D) "__getattr__") (some none) && decide (PySem.W.subIn K (.ref D) (.type "BaseException") = some true) && PySem.W.hasDictIn K D &&
  He.eqO (PySem.W.findIn K (.ref D) "__class__") (some (some (.builtin "object.__class__"))) && He.eqO (PySem.W.specialIn K (.builtin "object.__class__") "__get__") (some (some (.builtin "getset_descriptor.__get__"))) && decide (PySem.W.takesIn K (.builtin "object.__class__") = some true) && decide (PySem.W.mroIn K D (.type "object") = some true) &&
  decide (PySem.W.kitOne K (.ref D) (.ref (He.ga K "NoField")) = some (j == 0)) && decide (PySem.W.kitOne K (.ref D) (.ref (He.ga K "NoMoment")) = some (j == 1)) && decide (PySem.W.kitOne K (.ref D) (.ref (He.ga K "NoRecord")) = some (j == 2)) &&
  decide (PySem.W.kitOne K (.ref D) (.ref (He.ga K "TooMany")) = some (j == 3)) && decide (PySem.W.kitOne K (.ref D) (.ref (He.ga K "BadText")) = some (j == 4)) && decide (PySem.W.kitOne K (.ref D) (.type "ValueError") = some true)
theorem kind_ok {K : PySem.W.Frag} {D : Addr} {j : Nat} (h : kindB K D j = true) : KindAt K D j := by
  unfold kindB at h
  simp only [Bool.and_eq_true] at h
  obtain ⟨⟨⟨⟨⟨⟨⟨⟨⟨⟨⟨⟨⟨a1, a2⟩, a3⟩, a4⟩, a5⟩, a6⟩, a7⟩, a8⟩, b0⟩, b1⟩, b2⟩, b3⟩, b4⟩, bv⟩ := h
  exact ⟨⟨He.eqO_ok a1, He.eqO_ok a2, of_decide_eq_true a3, a4, He.eqO_ok a5, He.eqO_ok a6, of_decide_eq_true a7, of_decide_eq_true a8⟩, of_decide_eq_true b0, of_decide_eq_true b1, of_decide_eq_true b2, of_decide_eq_true b3, of_decide_eq_true b4, of_decide_eq_true bv⟩
/-- the globals that name the classes -/
structure ExG (K : PySem.W.Frag) (mg : Str → Option Value) : Prop where
  g0 : mg "NoField" = some (.ref (He.ga K "NoField"))
  g1 : mg "NoMoment" = some (.ref (He.ga K "NoMoment"))
  g2 : mg "NoRecord" = some (.ref (He.ga K "NoRecord"))
  g3 : mg "TooMany" = some (.ref (He.ga K "TooMany"))
  g4 : mg "BadText" = some (.ref (He.ga K "BadText"))
  gv : mg "ValueError" = none
def kindL (j : Nat) : List Bool := [j == 0, j == 1, j == 2, j == 3, j == 4, true]
def spKind (K : PySem.W.Frag) (j : Nat) : Addr → Sp := fun a vs H Q _ => vs = [.ref a] ∧ ∀ l H', Same H H' → H l = none → H' l = some (.lst ((kindL j).map V.bl)) → Q (.ref l) H'
def spOneOf : Sp := fun vs H Q _ => ∃ j : Nat, vs = [.int (j : Int)] ∧ ∀ l H', Same H H' → H l = none → H' l = some (.lst ((kindL j).map V.bl)) → Q (.ref l) H'
/-- a class of refusals that the program raises -/
structure ErrX (K : PySem.W.Frag) (mg : Str → Option Value) (x : Str) : Prop where
  g : mg x = some (.ref (He.ga K x))
  xc : PySem.W.excIn K (He.ga K x) He.veBase "ValueError.__new__" = true
  k : PySem.W.keepIn K (.ref (He.ga K x)) = true
  b : PySem.W.subIn K (.ref (He.ga K x)) (.type "BaseException") = some true
  t : PySem.W.typeIn K (.ref (He.ga K x)) = some (.type "type")
/-- data of truth values -/
def dBools (bs : List Bool) : PyData := .list (bs.map PyData.bool)
theorem takes_noneN {X : Cx} : L2N.Takes X (fun _ _ _ _ => False) := by
  rintro _ _ ⟨_, _, _, _, _, _, _, _, _, _, _, _, _, _, _, _, z⟩
  exact z.elim
section
variable {X : Cx} {k j : Nat} {x : Str} {ps : List Str} {sp : Sp} {e : Expr} {es : List Expr} {t : TA} {p pos : Pos} {W : WX} {E : XK}
/-- a call of a def that may refuse: out of this def -/
theorem pe_gdX (G : Gd (CXN X.prog X.w) X.prog X.w X.K X.mg X.base j x ps sp) (hr : Room k X.A) (tk : L2N.Takes X W) (hW : ∀ cls d σ H, E cls d H → W cls d σ H) (ha : PA X (e :: es) t) (hjk : j ≤ k := by decide) (hg : Gl X x := by rfl) (hdb : (x == ("__debug__" : Str)) = false := by decide)
    (he : starEach (e :: es) X.env = (false, eval e X.env) :: starEach es X.env := by rfl) (hpl : (backTo pos (starEach es X.env)).any (·.1) = false := by rfl) :
    PE X (.Call (.Name x p) (e :: es) [] pos) (tCall sp [] E t) := by
  obtain ⟨f, fd, F, g, kp, b⟩ := G
  exact pe_call F (hr.mono hjk) hg g kp b .nil (L2N.passes_call tk hW) ha hdb he hpl
/-- .. in a try -/
theorem pe_gdS (G : Gd (CXN X.prog X.w) X.prog X.w X.K X.mg X.base j x ps sp) (hr : Room k X.A) (tk : L2N.Takes X W) (ha : PA X (e :: es) t) (hjk : j ≤ k := by decide) (hg : Gl X x := by rfl) (hdb : (x == ("__debug__" : Str)) = false := by decide)
    (he : starEach (e :: es) X.env = (false, eval e X.env) :: starEach es X.env := by rfl) (hpl : (backTo pos (starEach es X.env)).any (·.1) = false := by rfl) :
    PE X (.Call (.Name x p) (e :: es) [] pos) (tCallS sp (WE W) t) := by
  obtain ⟨f, fd, F, g, kp, b⟩ := G
  exact pe_callS F (hr.mono hjk) hg g kp b (fun σ => L2N.passAt tk σ) ha hdb he hpl
end
/-- the law's _law_kind, for each class of refusals -/
def GdKind (P : Program) (w : World) (K : PySem.W.Frag) (mg : Str → Option Value) (base : Heap) : Prop :=
  ∃ f fd, (∀ D j, KindAt K D j → FnE P w K mg base D 1 f fd ["e"] (spKind K j)) ∧ mg "_law_kind" = some (.ref f) ∧ PySem.W.keepIn K (.ref f) = true ∧ Binds K fd ["e"] []
def tKind (K : PySem.W.Frag) (cls : Value) (d : Option Addr) (a : Addr) (t : TA) : TE := fun σ H Q => ∃ D j, cls = .ref D ∧ d = none ∧ KindAt K D j ∧ t σ H fun vs H1 => spKind K j a vs H1 Q E0
section
variable {X : Cx} {k : Nat} {a : Addr} {oe : Obj} {pn : List (Addr × Obj)} {cls : Value} {d : Option Addr} {e : Expr} {t : TA} {q pos : Pos}
theorem pe_kind (G : GdKind X.prog X.w X.K X.mg X.base) (hr : Room k X.A) (hz : L2N.Zn cls d oe) (hf : ∃ vs, oe.data = .fields vs) (ha : PA (X.suite a ((a, oe) :: pn)) [e] t) (hk : 1 ≤ k := by decide) (hg : Gl X "_law_kind" := by rfl)
    (he : starEach [e] X.env = (false, eval e X.env) :: starEach [] X.env := by rfl) :
    PE (X.suite a ((a, oe) :: pn)) (.Call (.Name "_law_kind" q) [e] [] pos) (tKind X.K cls d a t) := by
  constructor
  intro pins s σ H Q I ⟨D, j, e1, e2, kd, h⟩
  subst e1 e2
  obtain ⟨f, fd, F, g, kp, b⟩ := G
  have r1 := (hr.mono hk)
  have room : L2H.RoomH 1 (X.suite a ((a, oe) :: pn)).A := ⟨r1.dp, r1.un⟩
  exact (pe_callE (X := X.suite a ((a, oe) :: pn)) (F D j kd) room rfl List.mem_cons_self hz hf hg g kp b ha (by decide) he rfl).run pins s σ H Q I h
end
/-! ### promises -/
def spRunX (K : PySem.W.Frag) : Sp := fun vs H _ E => ∃ (f : Addr) (z : Int), vs = [.ref f, .int z] ∧ (z < 0 ∨ 40 < z) ∧ E (.ref (He.ga K "NoMoment")) none H
def spRefused (K : PySem.W.Frag) : Sp := fun vs H Q _ => ∃ (c : Int) (f : Addr) (z : Int), vs = [.int c, .ref f, .int z] ∧ (c = 0 ∨ c = 1 ∨ c = 2) ∧ (z < 0 ∨ 40 < z) ∧ ∀ H', Same H H' → Q (.bl true) H'
theorem bools_dp {K : PySem.W.Frag} {H : Hp} : ∀ bs : List Bool, DpAll K H (bs.map V.bl) (bs.map PyData.bool)
  | [] => .nil
  | b :: bs => .cons (.bl b) (bools_dp bs)
theorem bools_at {K : PySem.W.Frag} {H : Hp} {l : Addr} {bs : List Bool} (h : H l = some (.lst (bs.map V.bl))) : Dp K H (.ref l) (dBools bs) := .lst (SqL.of h) (bools_dp bs)
/-! ### an object made in a try -/
def tMakeS (C : Addr) (sp : Sp) (W : WX) (t : TA) : TE := fun σ H Q => t σ H fun vs H1 => ∀ x dx, H1 x = none → H1 dx = none → dx ≠ x → sp (.ref x :: vs) (upd (upd H1 dx (.own x)) x (.ins C dx [])) (fun v H2 => v = .non ∧ Q (.ref x) H2) (WE W σ)
section
variable {X : Cx} {k : Nat} {f C : Addr} {fd : FuncData} {ps : List Str} {sp : Sp} {x : Str} {e : Expr} {es : List Expr} {t : TA} {p pos : Pos} {W : WX}
theorem pe_makeS (M : Mk X.K C f) (F : FnOk X.prog X.w X.K X.mg X.base (CXN X.prog X.w) k f fd ps sp) (hr : Room (k + 1) X.A) (tk : L2N.Takes X W) (hg : Gl X x) (hm : X.mg x = some (.ref C)) (hb : Binds X.K fd ps []) (ha : PA X (e :: es) t)
    (hdb : (x == ("__debug__" : Str)) = false := by decide) (he : starEach (e :: es) X.env = (false, eval e X.env) :: starEach es X.env := by rfl) (hpl : (backTo pos (starEach es X.env)).any (·.1) = false := by rfl) :
    PE X (.Call (.Name x p) (e :: es) [] pos) (tMakeS C sp W t) := by
  constructor
  intro pins s σ H Q I h
  refine wpAny_Call_Name_kw (ld_glob I hg hm ?_ hdb)
  refine PySem.W.callWith_K (h₀ := X.base) I.ok.mod.kin M.kp (thn (ha.run pos pins s σ H _ I h) ?_) he hpl
  intro us s1 got
  obtain ⟨vs, H1, I1, r, q⟩ := got
  refine ⟨I1.kIn, ?_⟩
  have two : s1.heap.objs.size ≠ s1.heap.objs.size + 1 := Nat.ne_of_lt (Nat.lt_succ_self _)
  have ask := q (s1.heap.objs.size + 1) s1.heap.objs.size (I1.hok.fresh (Nat.le_succ _)) (I1.hok.fresh (Nat.le_refl _)) two
  have made := Inv.made (C := C) I1
  have vals : Vals (V.ref (s1.heap.objs.size + 1) :: vs) (Value.ref (s1.heap.objs.size + 1) :: us) := .cons rfl r
  have arity : (Value.ref (s1.heap.objs.size + 1) :: us).length = ps.length := vals.length.symm.trans (F.len _ _ _ _ ask)
  have bs := hb _ (Value.ref (s1.heap.objs.size + 1) :: us) made.kIn ((congrArg List.length (List.append_nil _)).trans arity)
  rw [List.append_nil] at bs
  have here := made.env0.make C us []
  refine wpAny_call (make_map (f := f) I1.kIn M.makes M.init (beq_iff_eq.mp M.fn) (codeAny_mono (F.run _ X.stack _ _ ⟨Value.ref (s1.heap.objs.size + 1) :: us, []⟩ (Value.ref (s1.heap.objs.size + 1) :: us) _ _ (WE W σ) (hr.make C us []) here bs vals ask) ?_))
  intro rr s2 hq
  match rr, hq with
  | .error u, hq => exact L2N.passAt tk σ pins _ _ u s2 made hq
  | .ok .next, hq => exact hq.elim
  | .ok .brk, hq => exact hq.elim
  | .ok .cont, hq => exact hq.elim
  | .ok (.ret u), hq =>
    obtain ⟨v, H2, I2, rv, ev, q2⟩ := made.after hq
    subst ev
    exact ⟨rv, ⟨V.ref (s1.heap.objs.size + 1), H2, I2, rfl, q2⟩⟩
end
/-- a field made, or refused -/
def FieldOk (ws : List Rat) : Prop := 1 ≤ ws.length ∧ ws.length ≤ 8 ∧ Unit1 ws
def spInitX (K : PySem.W.Frag) : Sp := fun vs H Q E => ∃ (p l dx : Addr) (ws : List Rat), vs = [.ref p, .ref l] ∧ H p = some (.ins (FC K) dx []) ∧ RL K H l ws ∧ ws.length ≤ 1000 ∧
  (FieldOk ws → ∀ (m : Addr) (H' : Hp), H m = none → FieldAt K H' p m ws → (∀ b o, H b = some o → b ≠ p → H' b = some o) → Q .non H') ∧ (¬ FieldOk ws → E (.ref (He.ga K "NoField")) none H)
def InitOkX (P : Program) (w : World) (K : PySem.W.Frag) (mg : Str → Option Value) (base : Heap) : Prop := ∃ f fd, FnOk P w K mg base (CXN P w) 1 f fd ["self", "walls"] (spInitX K) ∧ Mk K (FC K) f ∧ Binds K fd ["self", "walls"] []
theorem make_fieldX {K : PySem.W.Frag} {H : Hp} {Q : Addr → Hp → Prop} {W : XK} {l : Addr} {ws : List Rat} (h : RL K H l ws) (hn : ws.length ≤ 1000)
    (hQ : FieldOk ws → ∀ (p m : Addr) (H' : Hp), H p = none → H m = none → Same H H' → FieldAt K H' p m ws → Q p H') (hE : ¬ FieldOk ws → ∀ H', Same H H' → W (.ref (He.ga K "NoField")) none H') :
    ∀ x dx, H x = none → H dx = none → dx ≠ x → spInitX K (.ref x :: [.ref l]) (upd (upd H dx (.own x)) x (.ins (FC K) dx [])) (fun v H2 => v = .non ∧ Q x H2) W := by
  intro x dx nx nd ne
  have s0 : Same H (upd (upd H dx (.own x)) x (.ins (FC K) dx [])) := fun b o e => by
    rw [upd_ne (ne_of_none e nx), upd_ne (ne_of_none e nd)]
    exact e
  exact ⟨x, l, dx, ws, rfl, upd_same, h.same s0, hn, fun ok m H' hm hf hk => ⟨rfl, hQ ok x m H' nx (s0.free hm) (fun b o e => hk b o (s0 b o e) (ne_of_none e nx)) hf⟩, fun no => hE no _ s0⟩
def spJoinedX (K : PySem.W.Frag) : Sp := fun vs H Q E => ∃ (f l g m : Addr) (ws us : List Rat), vs = [.ref f, .ref g] ∧ FieldAt K H f l ws ∧ FieldAt K H g m us ∧ 1 ≤ ws.length ∧ ws.length ≤ 8 ∧ us.length ≤ 8 ∧ Unit1 ws ∧ Unit1 us ∧
  (ws.length + us.length ≤ 8 → ∀ (p r : Addr) (H' : Hp), H p = none → H r = none → Same H H' → FieldAt K H' p r (ws ++ us) → Q (.ref p) H') ∧ (8 < ws.length + us.length → ∀ H', Same H H' → E (.ref (He.ga K "TooMany")) none H')
def spMade (K : PySem.W.Frag) : Sp := fun vs H Q _ =>
  (∃ (l : Addr) (ws : List Rat), vs = [.int 0, .ref l, .non] ∧ RL K H l ws ∧ ws.length ≤ 1000 ∧
    (FieldOk ws → ∀ (t x m lk : Addr) (H' : Hp), Same H H' → H' t = some (.tup [.ref x, .ref lk]) → FieldAt K H' x m ws → H x = none → H m = none → RL K H' lk [] → Q (.ref t) H') ∧
    (¬ FieldOk ws → ∀ (t lk : Addr) (H' : Hp), Same H H' → H' t = some (.tup [.non, .ref lk]) → H' lk = some (.lst ((kindL 0).map V.bl)) → Q (.ref t) H')) ∨
  (∃ (f l g m : Addr) (ws us : List Rat), vs = [.int 1, .ref f, .ref g] ∧ FieldAt K H f l ws ∧ FieldAt K H g m us ∧ 1 ≤ ws.length ∧ ws.length ≤ 8 ∧ us.length ≤ 8 ∧ Unit1 ws ∧ Unit1 us ∧
    (ws.length + us.length ≤ 8 → ∀ (t x r lk : Addr) (H' : Hp), Same H H' → H' t = some (.tup [.ref x, .ref lk]) → FieldAt K H' x r (ws ++ us) → RL K H' lk [] → Q (.ref t) H') ∧
    (8 < ws.length + us.length → ∀ (t lk : Addr) (H' : Hp), Same H H' → H' t = some (.tup [.non, .ref lk]) → H' lk = some (.lst ((kindL 3).map V.bl)) → Q (.ref t) H'))
theorem rat_of {K : PySem.W.Frag} {H : Hp} {t : Addr} {q : Rat} {n d : Int} (e : H t = some (.tup [.int n, .int d])) (hn : n = q.num) (hd : d = (q.den : Int)) : RatAt K H (.ref t) q := ⟨t, rfl, by rw [← hn, ← hd]; exact SqT.of e⟩
/-- the last item stored -/
theorem ixs_last {K : PySem.W.Frag} {H : Hp} {l : Addr} {qs : List Rat} {Q : Hp → Prop} {v : V} {q : Rat} (h : RL K H l qs) (hi : 0 < qs.length) (r : RatAt K H v q)
    (hQ : ∀ H', Kt H H' → (∀ b, b ≠ l → H' b = H b) → RL K H' l (qs.set (qs.length - 1) q) → Q H') : rSetL (.ref l) (.int (-1)) v H Q := by
  obtain ⟨xs, e, rx⟩ := h
  have hx : 0 < xs.length := by rw [rx.1]; exact hi
  refine ⟨l, xs, -1, qs.length - 1, rfl, rfl, e, ?_, hQ _ (Kt.set e) (fun b hb => upd_ne hb) (RL.upd e (rx.set r))⟩
  unfold ixN
  have h1 := rx.1
  rw [if_neg (by omega), if_pos (by omega)]
  congr 1
  omega
end Ef
namespace Ef
/-! ### records of strengths with bottoms to six: all walls that they tell, reckoned through -/
def nxR : List (Nat × Nat) → List Nat → List Nat → List Nat
  | p :: ac, r :: rs, l :: ls => (r * p.2 + l * p.1) :: nxR ac rs ls
  | _, _, _ => []
def nxL : List (Nat × Nat) → List Nat → List Nat → List Nat
  | p :: ac, r :: rs, l :: ls => (r * p.1 + l * p.2) :: nxL ac rs ls
  | _, _, _ => [0]
def simI (ac : List (Nat × Nat)) : Nat → List Nat → List Nat → Nat
  | 0, _, L => L.headD 0
  | t + 1, R, L => simI ac t (0 :: nxR ac R L.tail) (nxL ac R L.tail)
def prodD : List (Nat × Nat) → Nat
  | [] => 1
  | p :: ps => p.2 * prodD ps
def prodC : List (Nat × Nat) → Nat
  | [] => 1
  | p :: ps => p.2 * prodC ps
def scale (D : Nat) (ps : List (Nat × Nat)) : List (Nat × Nat) := ps.map fun p => (p.1 * (D / p.2), D - p.1 * (D / p.2))
def zeros : Nat → List Nat
  | 0 => []
  | n + 1 => 0 :: zeros n
def knI (ps : List (Nat × Nat)) : Nat := simI (scale (prodD ps) ps) (2 * ps.length + 1) (1 :: zeros ps.length) (zeros (ps.length + 1))
def nxt (j D K T : Nat) (s : Nat × Nat) : Option (Nat × Nat) :=
  if K * s.2 ≤ s.1 * D ^ (2 * j + 1) ∧ s.1 * D ^ (2 * j + 1) - K * s.2 ≤ s.2 * D * (T * T) then
    some ((s.1 * D ^ (2 * j + 1) - K * s.2) / Nat.gcd (s.1 * D ^ (2 * j + 1) - K * s.2) (s.2 * D * (T * T)), (s.2 * D * (T * T)) / Nat.gcd (s.1 * D ^ (2 * j + 1) - K * s.2) (s.2 * D * (T * T)))
  else none
def candI : List (Nat × Nat) := [(0, 1), (1, 1), (1, 2), (1, 3), (2, 3), (1, 4), (3, 4), (1, 5), (2, 5), (3, 5), (4, 5), (1, 6), (5, 6)]
def chk : Nat → List (Nat × Nat) → Bool
  | 0, _ => true
  | n + 1, ps => if prodC (scale (prodD ps) ps) = 0 then chk n (ps ++ [(0, 1)]) else candI.all fun s => match nxt ps.length (prodD ps) (knI ps) (prodC (scale (prodD ps) ps)) s with
    | none => true
    | some q => Nat.blt q.2 1048576 && chk n (ps ++ [q])
def toR (p : Nat × Nat) : Rat := mkRat p.1 p.2
structure PsOk (ps : List (Nat × Nat)) : Prop where
  dp : ∀ p ∈ ps, 0 < p.2
  le : ∀ p ∈ ps, p.1 ≤ p.2
theorem PsOk.tail {p : Nat × Nat} {ps : List (Nat × Nat)} (h : PsOk (p :: ps)) : PsOk ps := ⟨fun q hq => h.dp q (List.mem_cons_of_mem _ hq), fun q hq => h.le q (List.mem_cons_of_mem _ hq)⟩
theorem prodD_pos : ∀ {ps : List (Nat × Nat)}, PsOk ps → 0 < prodD ps
  | [], _ => Nat.one_pos
  | p :: ps, h => Nat.mul_pos (h.dp p List.mem_cons_self) (prodD_pos h.tail)
theorem prodD_dvd : ∀ {ps : List (Nat × Nat)} {p : Nat × Nat}, p ∈ ps → p.2 ∣ prodD ps
  | q :: ps, p, h => by
    rcases List.mem_cons.mp h with h | h
    · rw [h]
      exact ⟨prodD ps, rfl⟩
    · exact Nat.dvd_trans (prodD_dvd h) ⟨q.2, Nat.mul_comm _ _⟩
/-- a part and what it lets through, by a common bottom -/
theorem toR_scale {D : Nat} {p : Nat × Nat} (h0 : 0 < p.2) (hl : p.1 ≤ p.2) (hd : p.2 ∣ D) : ((p.1 * (D / p.2) : Nat) : Rat) = (D : Rat) * toR p ∧ ((D - p.1 * (D / p.2) : Nat) : Rat) = (D : Rat) * (1 - toR p) := by
  obtain ⟨k, rfl⟩ := hd
  have e : p.2 * k / p.2 = k := Nat.mul_div_cancel_left k h0
  rw [e]
  have hp := nz_cast h0
  have r : toR p * (p.2 : Rat) = (p.1 : Rat) := by
    unfold toR
    rw [Rat.mkRat_eq_div]
    exact Rat.div_mul_cancel hp
  have a : ((p.1 * k : Nat) : Rat) = ((p.2 * k : Nat) : Rat) * toR p := by
    rw [Rat.natCast_mul, Rat.natCast_mul, ← r]
    grind
  refine ⟨a, ?_⟩
  have le : p.1 * k ≤ p.2 * k := Nat.mul_le_mul_right k hl
  have s : ((p.2 * k - p.1 * k : Nat) : Rat) + ((p.1 * k : Nat) : Rat) = ((p.2 * k : Nat) : Rat) := by
    rw [← Rat.natCast_add, Nat.sub_add_cancel le]
  rw [a] at s
  grind
theorem nxR_at {ac : List (Nat × Nat)} : ∀ {rs ls : List Nat} {c : Nat}, c < ac.length → ac.length ≤ rs.length → ac.length ≤ ls.length → ∀ p, ac[c]? = some p → (nxR ac rs ls).getD c 0 = rs.getD c 0 * p.2 + ls.getD c 0 * p.1 := by
  induction ac with
  | nil => intro rs ls c h; simp at h
  | cons q ac ih =>
    intro rs ls c h h1 h2 p hp
    match rs, ls with
    | [], _ => simp at h1
    | _ :: _, [] => simp at h2
    | r :: rs, l :: ls =>
      cases c with
      | zero =>
        cases hp
        rfl
      | succ c =>
        simp only [List.length_cons] at h h1 h2
        exact ih (by omega) (by omega) (by omega) p hp
theorem nxL_at {ac : List (Nat × Nat)} : ∀ {rs ls : List Nat} {c : Nat}, c < ac.length → ac.length ≤ rs.length → ac.length ≤ ls.length → ∀ p, ac[c]? = some p → (nxL ac rs ls).getD c 0 = rs.getD c 0 * p.1 + ls.getD c 0 * p.2 := by
  induction ac with
  | nil => intro rs ls c h; simp at h
  | cons q ac ih =>
    intro rs ls c h h1 h2 p hp
    match rs, ls with
    | [], _ => simp at h1
    | _ :: _, [] => simp at h2
    | r :: rs, l :: ls =>
      cases c with
      | zero =>
        cases hp
        rfl
      | succ c =>
        simp only [List.length_cons] at h h1 h2
        exact ih (by omega) (by omega) (by omega) p hp
theorem nxR_len {ac : List (Nat × Nat)} : ∀ {rs ls : List Nat}, ac.length ≤ rs.length → ac.length ≤ ls.length → (nxR ac rs ls).length = ac.length := by
  induction ac with
  | nil => intro rs ls _ _; rfl
  | cons q ac ih =>
    intro rs ls h1 h2
    match rs, ls with
    | [], _ => simp at h1
    | _ :: _, [] => simp at h2
    | r :: rs, l :: ls =>
      simp only [List.length_cons] at h1 h2
      show (nxR ac rs ls).length + 1 = ac.length + 1
      rw [ih (by omega) (by omega)]
theorem nxL_len {ac : List (Nat × Nat)} : ∀ {rs ls : List Nat}, ac.length ≤ rs.length → ac.length ≤ ls.length → (nxL ac rs ls).length = ac.length + 1 ∧ (nxL ac rs ls).getD ac.length 0 = 0 := by
  induction ac with
  | nil =>
    intro rs ls _ _
    match rs, ls with
    | [], _ => exact ⟨rfl, rfl⟩
    | _ :: _, [] => exact ⟨rfl, rfl⟩
    | _ :: _, _ :: _ => exact ⟨rfl, rfl⟩
  | cons q ac ih =>
    intro rs ls h1 h2
    match rs, ls with
    | [], _ => simp at h1
    | _ :: _, [] => simp at h2
    | r :: rs, l :: ls =>
      simp only [List.length_cons] at h1 h2
      obtain ⟨a, b⟩ := ih (rs := rs) (ls := ls) (by omega) (by omega)
      refine ⟨?_, b⟩
      show (nxL ac rs ls).length + 1 = ac.length + 1 + 1
      rw [a]
/-- the whole numbers against the sounds -/
structure SimAt (D n : Nat) (W : Nat → Rat) (t : Nat) (R L : List Nat) : Prop where
  rl : R.length = n + 1
  ll : L.length = n + 1
  r : ∀ c, c ≤ n → ((R.getD c 0 : Nat) : Rat) = ((D ^ t : Nat) : Rat) * goR n W t c
  l : ∀ c, c ≤ n → ((L.getD c 0 : Nat) : Rat) = ((D ^ t : Nat) : Rat) * goL n W t c
structure AcOk (D n : Nat) (W : Nat → Rat) (ac : List (Nat × Nat)) : Prop where
  len : ac.length = n
  at_ : ∀ c p, ac[c]? = some p → (p.1 : Rat) = (D : Rat) * W c ∧ (p.2 : Rat) = (D : Rat) * (1 - W c)
theorem tail_at (L : List Nat) (c : Nat) : L.tail.getD c 0 = L.getD (c + 1) 0 := by
  cases L with
  | nil => rfl
  | cons a b => rfl
theorem SimAt.step {D n t : Nat} {W : Nat → Rat} {ac : List (Nat × Nat)} {R L : List Nat} (h : SimAt D n W t R L) (k : AcOk D n W ac) : SimAt D n W (t + 1) (0 :: nxR ac R L.tail) (nxL ac R L.tail) := by
  have h1 : ac.length ≤ R.length := by rw [k.len, h.rl]; omega
  have h2 : ac.length ≤ L.tail.length := by rw [k.len, List.length_tail, h.ll]; omega
  have e : ((D ^ (t + 1) : Nat) : Rat) = ((D ^ t : Nat) : Rat) * (D : Rat) := by rw [Nat.pow_succ, Rat.natCast_mul]
  refine ⟨by rw [List.length_cons, nxR_len h1 h2, k.len], by rw [(nxL_len h1 h2).1, k.len], fun c hc => ?_, fun c hc => ?_⟩
  · cases c with
    | zero =>
      rw [goR_zero]
      show ((0 : Nat) : Rat) = _ * 0
      have z : ((0 : Nat) : Rat) = 0 := rfl
      rw [z]
      grind
    | succ c =>
      have hcn : c < ac.length := by rw [k.len]; omega
      have hp := List.getElem?_eq_getElem hcn
      obtain ⟨q1, q2⟩ := k.at_ c _ hp
      show (((nxR ac R L.tail).getD c 0 : Nat) : Rat) = _
      rw [nxR_at hcn h1 h2 _ hp, tail_at, goR_succ, Rat.natCast_add, Rat.natCast_mul, Rat.natCast_mul, h.r c (by omega), h.l (c + 1) hc, q1, q2, e]
      grind
  · by_cases hcn : c < n
    · have hca : c < ac.length := by rw [k.len]; exact hcn
      have hp := List.getElem?_eq_getElem hca
      obtain ⟨q1, q2⟩ := k.at_ c _ hp
      rw [nxL_at hca h1 h2 _ hp, tail_at, goL_succ W t hcn, Rat.natCast_add, Rat.natCast_mul, Rat.natCast_mul, h.r c (by omega), h.l (c + 1) (by omega), q1, q2, e]
      grind
    · have ec : c = n := by omega
      subst ec
      have z := (nxL_len h1 h2).2
      rw [k.len] at z
      rw [z, goL_end]
      have z0 : ((0 : Nat) : Rat) = 0 := rfl
      rw [z0]
      grind
theorem simI_ok {D n : Nat} {W : Nat → Rat} {ac : List (Nat × Nat)} (k : AcOk D n W ac) : ∀ (m t : Nat) (R L : List Nat), SimAt D n W t R L → ((simI ac m R L : Nat) : Rat) = ((D ^ (t + m) : Nat) : Rat) * goL n W (t + m) 0
  | 0, t, R, L, h => by
    have e := h.l 0 (Nat.zero_le _)
    have e2 : L.getD 0 0 = L.headD 0 := by
      cases L <;> rfl
    rw [e2] at e
    exact e
  | m + 1, t, R, L, h => by
    have ih := simI_ok k m (t + 1) _ _ (h.step k)
    have e : t + 1 + m = t + (m + 1) := by omega
    rw [e] at ih
    exact ih
theorem zeros_len : ∀ n, (zeros n).length = n
  | 0 => rfl
  | n + 1 => by
    show (zeros n).length + 1 = n + 1
    rw [zeros_len n]
theorem zeros_at : ∀ n c, (zeros n).getD c 0 = 0
  | 0, _ => rfl
  | n + 1, 0 => rfl
  | n + 1, c + 1 => zeros_at n c
theorem sim_start (D n : Nat) (W : Nat → Rat) : SimAt D n W 0 (1 :: zeros n) (zeros (n + 1)) := by
  have z0 : ((0 : Nat) : Rat) = 0 := rfl
  have z1 : ((1 : Nat) : Rat) = 1 := rfl
  refine ⟨by rw [List.length_cons, zeros_len], zeros_len _, fun c hc => ?_, fun c hc => ?_⟩
  · rw [goR_0]
    cases c with
    | zero =>
      show ((1 : Nat) : Rat) = ((1 : Nat) : Rat) * 1
      rw [z1]
      grind
    | succ c =>
      show (((zeros n).getD c 0 : Nat) : Rat) = _
      rw [zeros_at, if_neg (by omega), z0]
      grind
  · rw [goL_0, zeros_at, z0]
    grind
end Ef
namespace Ef
theorem natR_ne {n : Nat} (h : n ≠ 0) : (n : Rat) ≠ 0 := nz_cast (Nat.pos_of_ne_zero h)
theorem at0_map_toR {ps : List (Nat × Nat)} {c : Nat} {p : Nat × Nat} (h : ps[c]? = some p) : at0 (ps.map toR) c = toR p := by
  unfold at0
  rw [List.getD_eq_getElem?_getD, List.getElem?_map, h]
  rfl
theorem ac_ok {ps : List (Nat × Nat)} (h : PsOk ps) : AcOk (prodD ps) ps.length (at0 (ps.map toR)) (scale (prodD ps) ps) := by
  refine ⟨by unfold scale; rw [List.length_map], fun c p hp => ?_⟩
  unfold scale at hp
  rw [List.getElem?_map] at hp
  cases e : ps[c]? with
  | none =>
    rw [e] at hp
    cases hp
  | some q =>
    rw [e] at hp
    have hq := List.mem_of_getElem? e
    have ep := Option.some.inj hp
    rw [← ep, at0_map_toR e]
    exact toR_scale (h.dp q hq) (h.le q hq) (prodD_dvd hq)
theorem kn_ok {ps : List (Nat × Nat)} (h : PsOk ps) : ((knI ps : Nat) : Rat) = ((prodD ps ^ (2 * ps.length + 1) : Nat) : Rat) * knownOf (ps.map toR) := by
  have z := simI_ok (ac_ok h) (2 * ps.length + 1) 0 _ _ (sim_start (prodD ps) ps.length (at0 (ps.map toR)))
  rw [Nat.zero_add] at z
  unfold knownOf
  rw [List.length_map]
  exact z
theorem prodC_app : ∀ (l : List (Nat × Nat)) (p : Nat × Nat), prodC (l ++ [p]) = prodC l * p.2
  | [], p => by
    show p.2 * 1 = 1 * p.2
    rw [Nat.mul_one, Nat.one_mul]
  | q :: l, p => by
    show q.2 * prodC (l ++ [p]) = q.2 * prodC l * p.2
    rw [prodC_app l p, Nat.mul_assoc]
theorem thru_ok {ps : List (Nat × Nat)} (h : PsOk ps) : ((prodC (scale (prodD ps) ps) : Nat) : Rat) = ((prodD ps ^ ps.length : Nat) : Rat) * thru (at0 (ps.map toR)) ps.length := by
  have go : ∀ n, n ≤ ps.length → ((prodC (scale (prodD ps) (ps.take n)) : Nat) : Rat) = ((prodD ps ^ n : Nat) : Rat) * thru (at0 (ps.map toR)) n := by
    intro n
    induction n with
    | zero =>
      intro _
      show ((1 : Nat) : Rat) = ((1 : Nat) : Rat) * 1
      have z1 : ((1 : Nat) : Rat) = 1 := rfl
      rw [z1]
      grind
    | succ n ih =>
      intro hn
      have hp := List.getElem?_eq_getElem (show n < ps.length by omega)
      have hm := List.mem_of_getElem? hp
      have et : ps.take (n + 1) = ps.take n ++ [ps[n]] := by
        rw [List.take_succ, hp]
        rfl
      have sc : scale (prodD ps) (ps.take n ++ [ps[n]]) = scale (prodD ps) (ps.take n) ++ [(ps[n].1 * (prodD ps / ps[n].2), prodD ps - ps[n].1 * (prodD ps / ps[n].2))] := by
        unfold scale
        rw [List.map_append]
        rfl
      rw [et, sc, prodC_app, Rat.natCast_mul, ih (by omega), (toR_scale (h.dp _ hm) (h.le _ hm) (prodD_dvd hm)).2, Nat.pow_succ, Rat.natCast_mul]
      show _ = _ * (thru (at0 (ps.map toR)) n * (1 - at0 (ps.map toR) n))
      rw [at0_map_toR hp]
      grind
  have z := go ps.length (Nat.le_refl _)
  rw [List.take_length] at z
  exact z
theorem cast_sub {a b : Nat} (h : b ≤ a) : ((a - b : Nat) : Rat) = (a : Rat) - (b : Rat) := by
  have s : ((a - b : Nat) : Rat) + (b : Rat) = (a : Rat) := by
    rw [← Rat.natCast_add, Nat.sub_add_cancel h]
  grind
theorem cast_le_nat {a b : Nat} (h : (a : Rat) ≤ (b : Rat)) : a ≤ b := by
  have z : ((a : Int) : Rat) ≤ ((b : Int) : Rat) := h
  have := cast_le z
  omega
theorem toR_low {N M : Nat} (hM : 0 < M) : toR (N / Nat.gcd N M, M / Nat.gcd N M) = mkRat (N : Int) M ∧ 0 < M / Nat.gcd N M ∧ (N ≤ M → N / Nat.gcd N M ≤ M / Nat.gcd N M) := by
  have gp : 0 < Nat.gcd N M := Nat.gcd_pos_of_pos_right _ hM
  obtain ⟨n, hn⟩ := Nat.gcd_dvd_left N M
  obtain ⟨m, hm⟩ := Nat.gcd_dvd_right N M
  have en : N / Nat.gcd N M = n := Nat.div_eq_of_eq_mul_right gp hn
  have em : M / Nat.gcd N M = m := Nat.div_eq_of_eq_mul_right gp hm
  have mp : 0 < m := Nat.pos_of_ne_zero fun e => by
    rw [e, Nat.mul_zero] at hm
    omega
  refine ⟨?_, by rw [em]; exact mp, fun _ => Nat.div_le_div_right (by assumption)⟩
  rw [en, em]
  unfold toR
  show mkRat (n : Int) m = mkRat (N : Int) M
  generalize Nat.gcd N M = g at gp hn hm
  subst hn hm
  rw [Int.natCast_mul]
  exact (Rat.mkRat_mul_left (by omega)).symm
theorem nxt_ok {ps : List (Nat × Nat)} {s : Nat × Nat} {v : Rat} (h : PsOk ps) (hs : 0 < s.2) (hT : prodC (scale (prodD ps) ps) ≠ 0) (hv : nextP (ps.map toR) (toR s) = some v) :
    ∃ q, nxt ps.length (prodD ps) (knI ps) (prodC (scale (prodD ps) ps)) s = some q ∧ toR q = v ∧ 0 < q.2 ∧ q.1 ≤ q.2 := by
  have kk := kn_ok h
  have tt := thru_ok h
  have Dp := prodD_pos h
  have hth : thruOf (ps.map toR) = thru (at0 (ps.map toR)) ps.length * thru (at0 (ps.map toR)) ps.length := by
    unfold thruOf
    rw [List.length_map]
  generalize knI ps = k at kk ⊢
  generalize prodC (scale (prodD ps) ps) = T at hT tt ⊢
  generalize thru (at0 (ps.map toR)) ps.length = θ at tt hth
  generalize prodD ps = D at kk tt Dp ⊢
  generalize ps.length = j at kk tt ⊢
  obtain ⟨a, b⟩ := s
  have hs : 0 < b := hs
  have bn := nz_cast hs
  have r1 : toR (a, b) * (b : Rat) = (a : Rat) := by
    unfold toR
    rw [Rat.mkRat_eq_div]
    exact Rat.div_mul_cancel bn
  have nθ : θ ≠ 0 := fun e => by
    rw [e] at tt
    have : (T : Rat) = 0 := by
      rw [tt]
      grind
    exact natR_ne hT this
  have nz : thruOf (ps.map toR) ≠ 0 := by
    rw [hth]
    intro e
    exact (Rat.mul_eq_zero.mp e).elim nθ nθ
  unfold nextP at hv
  rw [if_neg nz] at hv
  split at hv
  · rename_i hin
    cases hv
    have hp : partOf (ps.map toR) (toR (a, b)) * thruOf (ps.map toR) = toR (a, b) - knownOf (ps.map toR) := Rat.div_mul_cancel nz
    generalize partOf (ps.map toR) (toR (a, b)) = x at hp hin ⊢
    generalize knownOf (ps.map toR) = κ at kk hp
    generalize toR (a, b) = ρ at r1 hp
    rw [hth] at hp
    have P2 : ((D ^ (2 * j + 1) : Nat) : Rat) = ((D ^ j : Nat) : Rat) * ((D ^ j : Nat) : Rat) * (D : Rat) := by
      rw [← Rat.natCast_mul, ← Rat.natCast_mul]
      congr 1
      rw [Nat.pow_succ, ← Nat.pow_add]
      congr 2
      omega
    have M1 : 0 < b * D * (T * T) := Nat.mul_pos (Nat.mul_pos hs Dp) (Nat.mul_pos (Nat.pos_of_ne_zero hT) (Nat.pos_of_ne_zero hT))
    have key : x * ((b * D * (T * T) : Nat) : Rat) = ((a * D ^ (2 * j + 1) : Nat) : Rat) - ((k * b : Nat) : Rat) := by
      rw [Rat.natCast_mul, Rat.natCast_mul, Rat.natCast_mul, Rat.natCast_mul, Rat.natCast_mul, kk, P2, tt, ← r1]
      generalize ((D ^ j : Nat) : Rat) = E at hp ⊢
      grind
    have Mr := nat_pos M1
    have le1 : k * b ≤ a * D ^ (2 * j + 1) := by
      refine cast_le_nat ?_
      have := Rat.mul_nonneg hin.1 (Rat.le_of_lt Mr)
      grind
    have key2 : x * ((b * D * (T * T) : Nat) : Rat) = ((a * D ^ (2 * j + 1) - k * b : Nat) : Rat) := by
      rw [cast_sub le1]
      exact key
    have le2 : a * D ^ (2 * j + 1) - k * b ≤ b * D * (T * T) := by
      refine cast_le_nat ?_
      rw [← key2]
      have := Rat.mul_le_mul_of_nonneg_right hin.2 (Rat.le_of_lt Mr)
      grind
    unfold nxt
    rw [if_pos ⟨le1, le2⟩]
    obtain ⟨q1, q2, q3⟩ := toR_low (N := a * D ^ (2 * j + 1) - k * b) M1
    refine ⟨_, rfl, ?_, q2, q3 le2⟩
    rw [q1]
    have e : x = mkRat ((a * D ^ (2 * j + 1) - k * b : Nat) : Int) (b * D * (T * T)) := IsD.eq M1 key2
    exact e.symm
  · cases hv
/-- every wall that such a record tells -/
structure Cand (rs : List Rat) : Prop where
  at_ : ∀ t, t < rs.length → ∃ s ∈ candI, at0 rs t = toR s
theorem cand_pos : ∀ s ∈ candI, 0 < s.2 := by decide
theorem reach_chk (c8 : chk 8 [] = true) {rs ws : List Rat} (hc : Cand rs) (h16 : rs.length ≤ 16) (h : Reach rs ws) :
    ∃ ps : List (Nat × Nat), ws = ps.map toR ∧ PsOk ps ∧ (∀ p ∈ ps, p.2 < 2 ^ 20) ∧ chk (8 - ps.length) ps = true := by
  induction h with
  | nil => exact ⟨[], rfl, ⟨fun p hp => (nomatch hp), fun p hp => (nomatch hp)⟩, fun p hp => (nomatch hp), c8⟩
  | @step us q hr l e ih =>
    obtain ⟨ps, rfl, ok, sm, ck⟩ := ih
    rw [List.length_map] at l
    have e8 : 8 - ps.length = (8 - (ps.length + 1)) + 1 := by omega
    have push : ∀ p : Nat × Nat, toR p = q → 0 < p.2 → p.1 ≤ p.2 → p.2 < 2 ^ 20 → chk (8 - (ps.length + 1)) (ps ++ [p]) = true →
        ∃ ps' : List (Nat × Nat), ps.map toR ++ [q] = ps'.map toR ∧ PsOk ps' ∧ (∀ p ∈ ps', p.2 < 2 ^ 20) ∧ chk (8 - ps'.length) ps' = true := by
      intro p ep h1 h2 h3 h4
      refine ⟨ps ++ [p], by rw [List.map_append, ← ep]; rfl, ⟨fun x hx => ?_, fun x hx => ?_⟩, fun x hx => ?_, by rw [List.length_append]; exact h4⟩
      · rcases List.mem_append.mp hx with hx | hx
        · exact ok.dp x hx
        · rw [List.mem_singleton.mp hx]
          exact h1
      · rcases List.mem_append.mp hx with hx | hx
        · exact ok.le x hx
        · rw [List.mem_singleton.mp hx]
          exact h2
      · rcases List.mem_append.mp hx with hx | hx
        · exact sm x hx
        · rw [List.mem_singleton.mp hx]
          exact h3
    rw [e8] at ck
    unfold chk at ck
    by_cases hT : prodC (scale (prodD ps) ps) = 0
    · rw [if_pos hT] at ck
      have tt := thru_ok ok
      rw [hT] at tt
      have t0 : thru (at0 (ps.map toR)) ps.length = 0 := by
        have z : ((prodD ps ^ ps.length : Nat) : Rat) * thru (at0 (ps.map toR)) ps.length = 0 := tt.symm
        rcases Rat.mul_eq_zero.mp z with y | y
        · exact absurd y (natR_ne (Nat.ne_of_gt (Nat.pow_pos (prodD_pos ok))))
        · exact y
      have z : thruOf (ps.map toR) = 0 := by
        unfold thruOf
        rw [List.length_map, t0]
        grind
      unfold nextP at e
      rw [if_pos z] at e
      cases e
      refine push (0, 1) ?_ (by decide) (by decide) (by decide) ck
      decide
    · rw [if_neg hT] at ck
      rw [List.length_map] at e
      obtain ⟨s, hs, es⟩ := hc.at_ _ l
      rw [es] at e
      obtain ⟨p, ep, ev, p0, pl⟩ := nxt_ok ok (cand_pos s hs) hT e
      have z := List.all_eq_true.mp ck s hs
      rw [ep] at z
      have z2 := Bool.and_eq_true_iff.mp z
      have lt : p.2 < 1048576 := by
        have y : Nat.blt p.2 1048576 = true := z2.1
        simpa [Nat.blt_eq] using y
      exact push p ev p0 pl (by omega) z2.2
theorem b20_next : ∀ j, j < 8 → bits (fun _ => 20) j (2 * j + 2) + 6 + 4 < 4500 ∧ 2 * bitsT (fun _ => 20) j < 4500 := by decide
theorem b20_run : ∀ j, j < 9 → bits (fun _ => 20) j 16 < 4500 := by decide
theorem cand_in : ∀ s ∈ candI, s.1 ≤ s.2 ∧ s.2 < 2 ^ 6 := by decide
theorem told_ok10 (c8 : chk 8 [] = true) {rs : List Rat} (hc : Cand rs) (h16 : rs.length ≤ 16) (hsm : ∀ q ∈ rs, Sm q) : ToldOk rs := by
  have small : ∀ {ws}, Reach rs ws → ∀ i, i < ws.length → dens ws i < 2 ^ 20 := fun {ws} h i hi => by
    obtain ⟨ps, rfl, ok, sm, _⟩ := reach_chk c8 hc h16 h
    rw [List.length_map] at hi
    have hp := List.getElem?_eq_getElem hi
    unfold dens
    rw [at0_map_toR hp]
    have hm := List.mem_of_getElem? hp
    exact Nat.lt_of_le_of_lt (mk_den_le (Nat.ne_of_gt (ok.dp _ hm))) (sm _ hm)
  refine ⟨hsm, fun ws h l => ?_, fun ws h l => ?_⟩
  · have b := small h
    obtain ⟨n1, n2⟩ := b20_next ws.length (by omega)
    obtain ⟨s, hs, es⟩ := hc.at_ _ l
    obtain ⟨s1, s2⟩ := cand_in s hs
    have s0 := cand_pos s hs
    have i01 : In01 (toR s) := in01_mk s0 (by omega) (by omega)
    have dl : (toR s).den ≤ s.2 := mk_den_le (Nat.ne_of_gt s0)
    rw [es]
    exact next_two (b := fun _ => 20) (e := 6) h.all_in b i01.1 (by have := i01.2; grind) (Nat.lt_of_le_of_lt dl s2) n1 n2 fun i hi => by show 2 * 20 < 4500; decide
  · have b := small h
    have dd := DD_bits (d := dens ws) (b := fun _ => 20) (t := 16) b
    have g := good_two h.all_in
    have n := b20_run ws.length (by have := h.len; omega)
    have d8 : DD (dens ws) ws.length rs.length ≤ DD (dens ws) ws.length 16 := Nat.le_of_dvd (prodTo_pos fun i hi => Nat.pow_pos (g.dp i hi)) (DD_mono h16)
    refine run_two g (Nat.lt_of_le_of_lt (Nat.le_trans d8 dd) (Nat.pow_lt_pow_right (by decide) n)) fun k hk => ?_
    exact Nat.lt_of_lt_of_le (b k hk) (Nat.pow_le_pow_right (by decide) (by decide))
theorem cand_all : ∀ y ∈ [1, 2, 3, 4, 5, 6], ∀ x ∈ List.range (y + 1), candI.any (fun s => decide (mkRat (x : Nat) y = toR s)) = true := by decide +kernel
theorem cand_mk {x y : Nat} (h1 : 1 ≤ y) (h6 : y ≤ 6) (hx : x ≤ y) : ∃ s ∈ candI, mkRat (x : Int) y = toR s := by
  have z := cand_all y (by simp only [List.mem_cons, List.not_mem_nil, or_false]; omega) x (List.mem_range.mpr (by omega))
  obtain ⟨s, hs, e⟩ := List.any_eq_true.mp z
  exact ⟨s, hs, of_decide_eq_true e⟩
theorem side_cand (c : Int) : ∃ s ∈ candI, sideOf c = toR s := by
  unfold sideOf
  have m0 : 0 ≤ c % 6 := Int.emod_nonneg _ (by decide)
  have m1 : c % 6 < 6 := Int.emod_lt_of_pos _ (by decide)
  split
  · have a0 : 0 ≤ c / 30 % 2 := Int.emod_nonneg _ (by decide)
    have a1 : c / 30 % 2 < 2 := Int.emod_lt_of_pos _ (by decide)
    obtain ⟨x, ex⟩ := Int.eq_ofNat_of_zero_le a0
    rw [ex]
    exact cand_mk (by decide) (by decide) (by omega)
  · obtain ⟨n, en⟩ := Int.eq_ofNat_of_zero_le (show 0 ≤ 1 + c % 6 by omega)
    rw [en, Int.toNat_natCast]
    have a0 : 0 ≤ c / 30 % ((n : Int) + 1) := Int.emod_nonneg _ (by omega)
    have a1 : c / 30 % ((n : Int) + 1) < (n : Int) + 1 := Int.emod_lt_of_pos _ (by omega)
    obtain ⟨x, ex⟩ := Int.eq_ofNat_of_zero_le a0
    rw [ex]
    exact cand_mk (by omega) (by omega) (by omega)
end Ef
namespace Ef
theorem chk_all : chk 8 [] = true := by decide +kernel
end Ef
namespace Ef
open PySem PySem.Spec PyProof.Rows L2
/-- a list that is no record -/
def BadRec (rs : List Rat) : Prop := rs.length % 2 = 1 ∨ ¬ (2 ≤ rs.length ∧ rs.length ≤ 16) ∨ ∃ q ∈ rs, q.num < 0
def spToldX (K : PySem.W.Frag) : Sp := fun vs H Q E => ∃ (lr : Addr) (rs : List Rat), vs = [.ref lr] ∧ RL K H lr rs ∧ rs.length ≤ 1000 ∧
  (BadRec rs → E (.ref (He.ga K "NoRecord")) none H) ∧ (¬ BadRec rs → ToldOk rs ∧ ∀ v H', Same H H' → Q v H')
theorem rats_small {q : Rat} {n : Nat} (h1 : q.num.natAbs < 2 ^ n) (h2 : q.den < 2 ^ n) (hn : n ≤ 4500) : Sm q := ⟨Nat.lt_of_lt_of_le h1 (Nat.pow_le_pow_right (by decide) hn), Nat.lt_of_lt_of_le h2 (Nat.pow_le_pow_right (by decide) hn)⟩
theorem mk_neg {t : Int} {b : Nat} (hb : b ≠ 0) (ht : t < 0) : (mkRat t b).num < 0 := by
  rw [num_mk hb]
  have g : (0 : Int) < ((t.natAbs.gcd b : Nat) : Int) := by
    have := Nat.gcd_pos_of_pos_right t.natAbs (Nat.pos_of_ne_zero hb)
    omega
  exact Int.ediv_lt_of_lt_mul g (by rw [Int.zero_mul]; exact ht)
theorem mem_set {rs : List Rat} {i : Nat} {q : Rat} (h : i < rs.length) : q ∈ rs.set i q := by
  refine List.mem_of_getElem? (i := i) ?_
  rw [List.getElem?_set, if_pos rfl, if_pos h]
theorem cand_sm {q : Rat} (h : ∃ s ∈ candI, q = toR s) : Sm q := by
  obtain ⟨s, hs, rfl⟩ := h
  obtain ⟨s1, s2⟩ := cand_in s hs
  have s0 := cand_pos s hs
  have i01 : In01 (toR s) := in01_mk s0 (by omega) (by omega)
  have dl : (toR s).den ≤ s.2 := mk_den_le (Nat.ne_of_gt s0)
  have u := unit_in i01
  exact rats_small (n := 6) (by omega) (by omega) (by omega)
theorem bad_not {rs : List Rat} (h : ¬ BadRec rs) : rs.length % 2 = 0 ∧ 2 ≤ rs.length ∧ rs.length ≤ 16 ∧ ∀ q ∈ rs, 0 ≤ q.num := by
  unfold BadRec at h
  have a : ¬ rs.length % 2 = 1 := fun z => h (.inl z)
  have b : 2 ≤ rs.length ∧ rs.length ≤ 16 := Classical.byContradiction fun z => h (.inr (.inl z))
  refine ⟨by omega, b.1, b.2, fun q hq => ?_⟩
  have c : ¬ q.num < 0 := fun z => h (.inr (.inr ⟨q, hq, z⟩))
  omega
end Ef
namespace Ef
open PySem PySem.Spec PyProof.Rows L2
def topS (i : Nat) : Stmt := PySem.Challenge.pw_echofield_k10_no_records.main.body.getD i (.Pass ⟨0, 0, 0, 0⟩)
abbrev s_Field_init : Stmt := inClass (topS 8) 0
abbrev s_Field_walls : Stmt := inClass (topS 8) 1
abbrev s_law_low : Stmt := topS 30
abbrev s_law_side : Stmt := topS 35
abbrev s_law_cell_at : Stmt := topS 26
abbrev s_law_kind : Stmt := topS 28
abbrev s_law_one : Stmt := topS 29
abbrev s_common : Stmt := topS 12
abbrev s_fraction : Stmt := topS 13
abbrev s_plus : Stmt := topS 14
abbrev s_minus : Stmt := topS 15
abbrev s_times : Stmt := topS 16
abbrev s_step : Stmt := topS 19
abbrev s_run : Stmt := topS 20
abbrev s_heard : Stmt := topS 21
abbrev s_over : Stmt := topS 17
abbrev s_next_part : Stmt := topS 23
abbrev s_told_by : Stmt := topS 24
abbrev s_law : Stmt := topS 37
section
variable {P : Program} {w : World} {K : PySem.W.Frag} {mg : Str → Option Value} {base : Heap}

theorem sc_Field_init : FnScope ["self", "walls", "top", "bottom"] ["self", "walls"] (defScope s_Field_init) := ⟨rfl, rfl, rfl, by decide +kernel, rfl, by decide +kernel, by decide +kernel⟩
theorem ok_Field_init {f : Addr} {fd : FuncData} (F : FnP K "__init__" "Field.__init__" s_Field_init f fd) (B : Bt mg) (TF : FTx K mg) : FnOk P w K mg base CX0 1 f fd ["self", "walls"] (spInit K) := by
  refine F.ok sc_Field_init (fun vs H Q E h => ?_) (fun cdv A outer s H vs Q E hr h => ?_)
  · obtain ⟨p, l, dx, ws, rfl, _⟩ := h
    rfl
  · obtain ⟨p, l, dx, ws, rfl, hp, hl, h1, h8, hu, k⟩ := h
    refine ⟨_, PSs.nox (pss_cons (ps_if (pt_not (pt_chain op_le op_le pe_int (pe_callB call_len_seq (by rfl) B.len (by decide +kernel) (pa_cons (pv 1) pa_nil)) pe_int)) (pss_one ps_never) pss_nil)
      (pss_cons (ps_for PassesOwn.never rfl (pi_list (pv 1)) (pg_tup (by rfl) (pgs_cons (pg_name (i := 2) sc_Field_init.nd rfl (Or.inl rfl)) (pgs_cons (pg_name (i := 3) sc_Field_init.nd rfl (Or.inl rfl)) pgs_nil))) (pss_one (ps_if (pt_not (pt_chain op_le op_le pe_int (pv 2) (pv 3))) (pss_one ps_never) pss_nil)))
      (pss_one (ps_fld (pv 0) (pe_lc (own := [("top", 2), ("bottom", 3)]) (g := (gTup K 2 (gCons (gName 2) (gCons (gName 3) gNil)))) (tt := tYes) rfl sc_Field_init.nd (pi_list (pv 1)) (blkOk_by (own := [("top", 2), ("bottom", 3)]) (N := ["self", "walls", "top", "bottom"]) (sc := defScope s_Field_init) (by decide +kernel)) (fun _ _ _ _ _ => (pg_tup (by rfl) (pgs_cons (pg_name (i := 2) sc_Field_init.nd rfl (Or.inl rfl)) (pgs_cons (pg_name (i := 3) sc_Field_init.nd rfl (Or.inl rfl)) pgs_nil)))) (fun _ _ _ _ _ => pts_nil) (fun _ _ _ _ _ => (pe_tup (pa_cons (pv 2) (pa_cons (pv 3) pa_nil))))) rfl)))), ?_⟩
    obtain ⟨xs, ex, rx⟩ := id hl
    -- the length
    refine ⟨_, rfl, l, xs, rfl, .inl (SqL.of ex), _, _, rfl, rfl, true, congrArg V.bl (decide_eq_true (by rw [rx.1]; omega)), ifT rfl ⟨_, _, rfl, rfl, true, congrArg V.bl (decide_eq_true (by rw [rx.1]; omega)), ifF rfl ?_⟩⟩
    -- each part
    refine ⟨_, rfl, l, rfl, ⟨xs, SqL.of ex⟩, for_list (K := K) (a := l) (xs := xs) (fun i σ H' => H' = H ∧ ∃ t b : Option V, σ = [some (.ref p), some (.ref l), t, b]) ⟨rfl, none, none, rfl⟩ (fun i σ H' _ ⟨e, _⟩ => by rw [e]; exact SqL.of ex) ?_ ?_⟩
    · rintro i v σ H' hi ⟨rfl, t, b, rfl⟩
      have hil : i < ws.length := by rw [← rx.1]; exact (List.getElem?_eq_some_iff.mp hi).1
      obtain ⟨a, rfl, ha⟩ := rx.2 i v ws[i] hi (List.getElem?_eq_getElem hil)
      obtain ⟨q0, q1⟩ := hu ws[i] (List.getElem_mem hil)
      refine ⟨a, _, rfl, ha, rfl, _, _, rfl, _, _, rfl, ⟨rfl, ?_⟩⟩
      refine ⟨_, rfl, _, _, rfl, rfl, true, congrArg V.bl (decide_eq_true q0), ifT rfl ⟨_, rfl, _, _, rfl, rfl, true, congrArg V.bl (decide_eq_true q1), ifF rfl ?_⟩⟩
      exact ⟨rfl, _, _, rfl⟩
    · rintro σ H' ⟨rfl, t, b, rfl⟩
      -- the parts kept
      refine ⟨_, rfl, l, rfl, ⟨xs, SqL.of ex⟩, fun D hD => ?_⟩
      refine lc_list (K := K) (a := l) (xs := xs) (fun i H2 => Same H' H2 ∧ RL K H2 D (ws.take i)) ⟨same_new hD, by rw [List.take_zero]; exact RL.new hD Rats.nil⟩ (fun i H2 _ ⟨s2, _⟩ => s2.seq (SqL.of ex)) ?_ ?_
      · rintro i v H2 hi ⟨s2, r2⟩
        have hil : i < ws.length := by rw [← rx.1]; exact (List.getElem?_eq_some_iff.mp hi).1
        obtain ⟨a, rfl, ha⟩ := rx.2 i v ws[i] hi (List.getElem?_eq_getElem hil)
        refine ⟨a, _, rfl, (kt_of s2).tup ha, rfl, _, _, rfl, _, _, rfl, rfl, rfl, yesQ (ifT rfl ?_)⟩
        refine ⟨_, rfl, _, rfl, (by show 2 ≤ sizeLine; decide), fun t ht => ?_⟩
        have r3 : RL K (upd H2 t (.tup [.int ws[i].num, .int (ws[i].den : Int)])) D (ws.take i) := r2.same (same_new ht)
        obtain ⟨acc, ea, ra⟩ := r3
        have el : acc.length = i := by rw [ra.1, List.length_take]; omega
        refine ⟨acc, ea, small1000 (by omega), same_but (s2.trans (same_new ht)) hD (fun b hb => upd_ne hb), ?_⟩
        rw [List.take_succ, List.getElem?_eq_getElem hil]
        exact RL.upd ea (ra.push ⟨t, rfl, SqT.of upd_same⟩)
      · rintro H2 ⟨s2, r2⟩
        have npD : p ≠ D := ne_of_none hp hD
        refine ⟨_, rfl, p, _, dx, [], rfl, s2 _ _ hp, TF.cl, TF.nP, (by show 0 < 1000; decide), ?_⟩
        rw [rx.1, List.take_length] at r2
        refine k D _ hD ⟨⟨dx, upd_same⟩, ?_⟩ (fun b o e hb => ?_)
        · obtain ⟨ys, ey, ry⟩ := r2
          refine ⟨ys, by rw [upd_ne npD.symm]; exact ey, ry.kt (Kt.obj (s2 _ _ hp))⟩
        · rw [upd_ne hb]
          exact s2 b o e

theorem sc_Field_walls : FnScope ["self"] ["self"] (defScope s_Field_walls) := ⟨rfl, rfl, rfl, by decide +kernel, rfl, by decide +kernel, by decide +kernel⟩
theorem ok_Field_walls {f : Addr} {fd : FuncData} (F : FnP K "walls" "Field.walls" s_Field_walls f fd) (B : Bt mg) (TF : FTx K mg) : FnOk P w K mg base CX0 1 f fd ["self"] (spWalls K) := by
  refine F.ok sc_Field_walls (fun vs H Q E h => ?_) (fun cdv A outer s H vs Q E hr h => ?_)
  · obtain ⟨p, l, ws, rfl, _⟩ := h
    rfl
  · obtain ⟨p, l, ws, rfl, ⟨⟨dx, e⟩, hl⟩, hn, k⟩ := h
    refine ⟨_, PSs.nox (pss_one (ps_ret (pe_callTy call_list_of (by rfl) B.list (by decide +kernel) (pa_cons (pe_fld (pv 0) rfl) pa_nil)))), ?_⟩
    obtain ⟨xs, ex, rx⟩ := hl
    refine ⟨_, rfl, p, _, dx, _, _, rfl, e, TF.cl, TF.nP, rfl, l, xs, rfl, .inl (SqL.of ex), fun m hm => ?_⟩
    exact k m _ hm (same_new hm) (RL.new hm rx)

theorem sc_law_low : FnScope ["top", "bottom", "one", "other", "rest"] ["top", "bottom"] (defScope s_law_low) := ⟨rfl, rfl, rfl, by decide +kernel, rfl, by decide +kernel, by decide +kernel⟩
theorem ok_law_low (D : Df K mg "_law_low" s_law_low) (B : Bt mg) : Gd CX0 P w K mg base 1 "_law_low" ["top", "bottom"] (spLow K) := by
  refine gd_of D sc_law_low (fun _ _ _ _ _ _ us hl => match us, hl with | [_, _], _ => rfl) (fun vs H Q E h => ?_) (fun f cdv A outer s H vs Q E hr h => ?_)
  · obtain ⟨t, b, rfl, _⟩ := h
    rfl
  · obtain ⟨t, b, rfl, hb, hl, k⟩ := h
    refine ⟨_, PSs.nox (pss_cons (ps_set (i := 2) sc_law_low.nd rfl (Or.inl rfl) (pe_callB call_abs (by rfl) B.abs (by decide +kernel) (pa_cons (pv 0) pa_nil)))
      (pss_cons (ps_set (i := 3) sc_law_low.nd rfl (Or.inl rfl) (pv 1))
      (pss_cons (ps_while PassesOwn.never (pt_cmpR op_gt (pv 3) pe_int (nomark _)) (pss_cons (ps_set (i := 4) sc_law_low.nd rfl (Or.inl rfl) (pe_op op_modN (pv 2) (pv 3))) (pss_cons (ps_set (i := 2) sc_law_low.nd rfl (Or.inl rfl) (pv 3)) (pss_one (ps_set (i := 3) sc_law_low.nd rfl (Or.inl rfl) (pv 4))))))
      (pss_one (ps_ret (pe_tup (pa_cons (pe_op op_fdivW (pv 0) (pv 2)) (pa_cons (pe_op op_fdivW (pv 1) (pv 2)) pa_nil)))))))), ?_⟩
    refine ⟨_, rfl, _, rfl, _, rfl, ?_⟩
    obtain ⟨c1, c2, e1, e2⟩ := low_facts t b b rfl hb hl
    refine ⟨fun m σ H1 => H1 = H ∧ ∃ (x y : Nat) (r : Option V), σ = [some (.int t), some (.int (b : Nat)), some (.int x), some (.int y), r] ∧ m = y ∧ Nat.gcd x y = Nat.gcd t.natAbs b,
      ⟨b, rfl, t.natAbs, b, none, congrArg (fun z => [some (V.int t), some (V.int (b : Nat)), some (V.int z), some (V.int (b : Nat)), none]) (abs_int t), rfl, rfl⟩, ?_⟩
    rintro m σ H1 ⟨rfl, x, y, r, rfl, rfl, eg⟩
    refine ⟨_, rfl, _, _, rfl, rfl, _, rfl, ?_⟩
    refine if2 (fun hy => ?_) (fun hy => ?_)
    · have hy : 0 < m := by omega
      refine ⟨fun σ' H' => H' = H1 ∧ ∃ r : Option V, σ' = [some (.int t), some (.int (b : Nat)), some (.int (m : Nat)), some (.int ((x % m : Nat) : Int)), r], ?_, ?_⟩
      · rintro σ' H' ⟨rfl, r', rfl⟩
        refine ⟨x % m, Nat.mod_lt _ hy, rfl, m, x % m, r', rfl, rfl, ?_⟩
        rw [← eg, Nat.gcd_comm x m, Nat.gcd_rec m x, Nat.gcd_comm m]
      · refine ⟨_, rfl, _, rfl, _, _, rfl, rfl, (by omega), ?_⟩
        refine ⟨_, rfl, _, rfl, rfl, some (.int ((x % m : Nat) : Int)), ?_⟩
        have ef : Int.fmod (x : Int) (m : Int) = ((x % m : Nat) : Int) := by rw [Int.fmod_eq_emod_of_nonneg _ (by omega)]; rfl
        exact congrArg (fun z => [some (V.int t), some (V.int (b : Nat)), some (V.int (m : Nat)), some (V.int z), some (V.int z)]) ef
    · have e : m = 0 := by omega
      subst e
      rw [Nat.gcd_zero_right] at eg
      subst eg
      refine ⟨_, rfl, _, rfl, _, _, rfl, rfl, c1, _, rfl, _, rfl, _, _, rfl, rfl, c2, (by show 2 ≤ sizeLine; decide), fun p hp => ?_⟩
      exact k p _ (same_new hp) (rat_new (congrArg V.int e1) (congrArg V.int e2))

theorem sc_law_side : FnScope ["cell", "bottom"] ["cell"] (defScope s_law_side) := ⟨rfl, rfl, rfl, by decide +kernel, rfl, by decide +kernel, by decide +kernel⟩
theorem ok_law_side (D : Df K mg "_law_side" s_law_side) (B : Bt mg) (g_law_low : Gd CX0 P w K mg base 1 "_law_low" ["top", "bottom"] (spLow K)) : Gd CX0 P w K mg base 2 "_law_side" ["cell"] (spSide K) := by
  refine gd_of D sc_law_side (fun _ _ _ _ _ _ us hl => match us, hl with | [_], _ => rfl) (fun vs H Q E h => ?_) (fun f cdv A outer s H vs Q E hr h => ?_)
  · obtain ⟨c, rfl, _⟩ := h
    rfl
  · obtain ⟨c, rfl, k⟩ := h
    refine ⟨_, PSs.nox (pss_cons (ps_set (i := 1) sc_law_side.nd rfl (Or.inl rfl) (pe_op op_add pe_int (pe_op op_mod (pv 0) pe_int)))
      (C8.pss_cut (ps_if (pt_cmpR op_eq (pe_op op_mod (pe_op op_fdiv (pv 0) pe_int) pe_int) pe_int (nomark _)) (pss_one (ps_set (i := 1) sc_law_side.nd rfl (Or.inl rfl) pe_int)) pss_nil)
      (pss_one (ps_ret (pe_gd g_law_low hr (pa_cons (pe_op op_mod (pe_op op_fdiv (pv 0) pe_int) (pe_op op_add (pv 1) pe_int)) (pa_cons (pv 1) pa_nil))))))), ?_⟩
    refine ⟨_, rfl, _, _, rfl, rfl, (by show (0 : Int) < 6; decide), _, _, rfl, rfl, ?_⟩
    refine ⟨fun σ' H' => H' = H ∧ ∃ n : Nat, σ' = [some (.int c), some (.int (n : Int))] ∧ n ≠ 0 ∧ n ≤ 1000 ∧ mkRat (c / 30 % ((n : Int) + 1)) n = sideOf c, ?_, ?_⟩
    · refine ⟨_, rfl, _, _, rfl, rfl, ⟨by decide, by decide⟩, _, _, rfl, rfl, (by show (0 : Int) < 5; decide), rfl, _, rfl, ?_⟩
      have m0 : 0 ≤ c % 6 := Int.emod_nonneg _ (by decide)
      have m1 : c % 6 < 6 := Int.emod_lt_of_pos _ (by decide)
      refine ifB (fun he => ?_) (fun he => ?_)
      · have e : c / 6 % 5 = 0 := V.int.inj (of_decide_eq_true he)
        refine ⟨rfl, 1, rfl, by decide, by decide, ?_⟩
        unfold sideOf
        rw [if_pos e]
        rfl
      · have e : ¬ c / 6 % 5 = 0 := deqF he
        obtain ⟨n, en⟩ := Int.eq_ofNat_of_zero_le (show 0 ≤ 1 + c % 6 by omega)
        refine ⟨rfl, n, congrArg (fun z => [some (V.int c), some (V.int z)]) en, by omega, by omega, ?_⟩
        unfold sideOf
        rw [if_neg e, en, Int.toNat_natCast]
    · rintro σ' H' ⟨rfl, n, rfl, n0, n1, er⟩
      refine ⟨_, rfl, _, _, rfl, rfl, ⟨by decide, by decide⟩, _, rfl, _, _, rfl, rfl, _, _, rfl, rfl, (by show (0 : Int) < (n : Int) + 1; omega), _, rfl, ?_⟩
      refine ⟨_, n, rfl, n0, Nat.lt_of_le_of_lt n1 (Nat.lt_of_lt_of_le (m := 2 ^ 10) (by decide) (Nat.pow_le_pow_right (by decide) (by decide))), fun r H' s hr => ?_⟩
      rw [er] at hr
      exact k r H' s hr

theorem sc_law_cell_at : FnScope ["script", "k"] ["script", "k"] (defScope s_law_cell_at) := ⟨rfl, rfl, rfl, by decide +kernel, rfl, by decide +kernel, by decide +kernel⟩
theorem ok_law_cell_at (D : Df K mg "_law_cell_at" s_law_cell_at) (B : Bt mg) : Gd CX0 P w K mg base 1 "_law_cell_at" ["script", "k"] (spCellAt K) := by
  refine gd_of D sc_law_cell_at (fun _ _ _ _ _ _ us hl => match us, hl with | [_, _], _ => rfl) (fun vs H Q E h => ?_) (fun f cdv A outer s H vs Q E hr h => ?_)
  · obtain ⟨a, ns, k, rfl, _⟩ := h
    rfl
  · obtain ⟨a, ns, k, rfl, hS, q⟩ := h
    refine ⟨_, PSs.nox (pss_cons (ps_if (pt_cmpR op_lt (pv 1) (pe_callB call_len_seq (by rfl) B.len (by decide +kernel) (pa_cons (pv 0) pa_nil)) (nomark _)) (pss_one (ps_ret (pe_ix ix_list (pv 0) (pv 1) (fun _ _ => rfl)))) pss_nil)
      (pss_one (ps_ret pe_int))), ?_⟩
    refine ⟨_, rfl, _, rfl, a, _, rfl, .inl hS, _, _, rfl, rfl, _, rfl, ?_⟩
    rw [List.length_map]
    refine if2 (fun hk => ?_) (fun hk => ?_)
    · have hk : k < ns.length := by omega
      refine ⟨_, rfl, _, rfl, a, _, _, .int (cellAt ns k), rfl, rfl, hS, atI_nat ?_, q⟩
      rw [List.getElem?_map, List.getElem?_eq_getElem hk]
      show some (V.int ns[k]) = some (V.int (ns.getD k 0))
      rw [List.getD_eq_getElem?_getD, List.getElem?_eq_getElem hk]
      rfl
    · have e : cellAt ns k = 0 := by
        unfold cellAt
        rw [List.getD_eq_getElem?_getD, List.getElem?_eq_none (by omega)]
        rfl
      rw [e] at q
      exact q

theorem sc_law_kind : FnScope ["e", "kinds"] ["e"] (defScope s_law_kind) := ⟨rfl, rfl, rfl, by decide +kernel, rfl, by decide +kernel, by decide +kernel⟩
theorem ok__law_kind (DF : Df K mg "_law_kind" s_law_kind) (B : Bt mg) (eG : ExG K mg) : GdKind P w K mg base := by
  obtain ⟨f, fd, F, g⟩ := DF
  refine ⟨f, fd, fun D j kd => ?_, g, F.kp, F.bindsN (fun _ _ _ _ _ _ us hl => match us, hl with | [_], _ => rfl)⟩
  refine fne_of F sc_law_kind (fun a vs H Q E h => ?_) (fun cdv A outer s H vs Q E p hot hz hr h => ?_)
  · obtain ⟨rfl, _⟩ := h
    rfl
  · obtain ⟨rfl, k⟩ := h
    have hf : ∃ vs, p.2.data = .fields vs := by
      obtain ⟨_, vs, e, _⟩ := hot
      exact ⟨vs, e⟩
    obtain ⟨a, oe⟩ := p
    refine ⟨_, PSs.nox (pss_cons (ps_set (i := 1) sc_law_kind.nd rfl (Or.inl rfl) (pe_lst (pa_cons (pe_callB (call_isP List.mem_cons_self kd.ec hz hf) (by rfl) B.isi (by decide +kernel) (pa_cons (pv 0) (pa_cons (pe_glob (v := .ref _) rfl eG.g0 rfl) pa_nil))) (pa_cons (pe_callB (call_isP List.mem_cons_self kd.ec hz hf) (by rfl) B.isi (by decide +kernel) (pa_cons (pv 0) (pa_cons (pe_glob (v := .ref _) rfl eG.g1 rfl) pa_nil))) (pa_cons (pe_callB (call_isP List.mem_cons_self kd.ec hz hf) (by rfl) B.isi (by decide +kernel) (pa_cons (pv 0) (pa_cons (pe_glob (v := .ref _) rfl eG.g2 rfl) pa_nil))) (pa_cons (pe_callB (call_isP List.mem_cons_self kd.ec hz hf) (by rfl) B.isi (by decide +kernel) (pa_cons (pv 0) (pa_cons (pe_glob (v := .ref _) rfl eG.g3 rfl) pa_nil))) pa_nil))))))
      (pss_one (ps_ret (pe_op op_cat (pv 1) (pe_lst (pa_cons (pe_callB (call_isP List.mem_cons_self kd.ec hz hf) (by rfl) B.isi (by decide +kernel) (pa_cons (pv 0) (pa_cons (pe_glob (v := .ref _) rfl eG.g4 rfl) pa_nil))) (pa_cons (pe_callB (call_isP List.mem_cons_self kd.ec hz hf) (by rfl) B.isi (by decide +kernel) (pa_cons (pv 0) (pa_cons (pe_bltn (v := .ty "ValueError") (by rfl) eG.gv (by decide +kernel) rfl) pa_nil))) pa_nil))))))), ?_⟩
    have cr : ∀ (q : Addr) (u : Value), RelV (.ref q) u → u = .ref q := fun _ _ e => e
    have ct : ∀ (u : Value), RelV (.ty "ValueError") u → u = .type "ValueError" := fun _ e => e
    refine ⟨_, rfl, .ref _, _, _, rfl, cr _, kd.k0, ?_⟩
    refine ⟨_, rfl, .ref _, _, _, rfl, cr _, kd.k1, ?_⟩
    refine ⟨_, rfl, .ref _, _, _, rfl, cr _, kd.k2, ?_⟩
    refine ⟨_, rfl, .ref _, _, _, rfl, cr _, kd.k3, ?_⟩
    refine ⟨(by show 4 ≤ sizeLine; decide), fun l1 h1 => ?_⟩
    refine ⟨_, rfl, _, rfl, .ref _, _, _, rfl, cr _, kd.k4, ?_⟩
    refine ⟨_, rfl, .ty "ValueError", _, _, rfl, ct, kd.kv, ?_⟩
    refine ⟨(by show 2 ≤ sizeLine; decide), fun l2 h2 => ?_⟩
    have e1 := (same_new (u := .lst [V.bl (j == 4), .bl true]) h2) _ _ (upd_same (H := H) (a := l1) (o := .lst [V.bl (j == 0), .bl (j == 1), .bl (j == 2), .bl (j == 3)]))
    refine ⟨l1, l2, _, _, rfl, rfl, e1, upd_same, (by show 4 + 2 ≤ sizeLine; decide), fun l3 h3 => ?_⟩
    exact k l3 _ (((same_new h1).trans (same_new h2)).trans (same_new h3)) (((same_new h1).trans (same_new h2)).free h3) upd_same

theorem sc_law_one : FnScope ["k", "j"] ["k"] (defScope s_law_one) := ⟨rfl, rfl, rfl, by decide +kernel, rfl, by decide +kernel, by decide +kernel⟩
theorem ok_law_one (D : Df K mg "_law_one" s_law_one) (B : Bt mg) : Gd CX0 P w K mg base 1 "_law_one" ["k"] (spOneOf) := by
  refine gd_of D sc_law_one (fun _ _ _ _ _ _ us hl => match us, hl with | [_], _ => rfl) (fun vs H Q E h => ?_) (fun f cdv A outer s H vs Q E hr h => ?_)
  · obtain ⟨j, rfl, _⟩ := h
    rfl
  · obtain ⟨j, rfl, k⟩ := h
    refine ⟨_, PSs.nox (pss_one (ps_ret (pe_op op_cat (pe_lc (own := [("j", 1)]) (g := (gName 1)) (tt := tYes) rfl sc_law_one.nd (pi_range1 (by rfl) B.range (pa_cons pe_int pa_nil)) (blkOk_by (own := [("j", 1)]) (N := ["k", "j"]) (sc := defScope s_law_one) (by decide +kernel)) (fun _ _ _ _ _ => (pg_name (i := 1) sc_law_one.nd rfl (Or.inl rfl))) (fun _ _ _ _ _ => pts_nil) (fun _ _ _ _ _ => (pe_cmpR op_eq (pv 0) (pv 1) (nomark _)))) (pe_lst (pa_cons pe_bl pa_nil))))), ?_⟩
    refine ⟨_, rfl, by decide, by decide, fun D hD => ?_⟩
    refine lc_range (lo := 0) (n := 5) (fun i H' => Same H H' ∧ H' D = some (.lst ((List.range i).map fun t => V.bl (j == t)))) ⟨same_new hD, upd_same⟩ ?_ ?_
    · rintro i H1 hi ⟨s1, e1⟩
      refine ⟨rfl, yesQ (ifT rfl ?_)⟩
      refine ⟨_, rfl, _, rfl, rfl, _, e1, small1000 (by rw [List.length_map, List.length_range]; omega), same_but s1 hD (fun b hb => upd_ne hb), ?_⟩
      have ed : decide (V.int (j : Int) = V.int (0 + (i : Int))) = (j == i) := by
        rw [dec_int, Int.zero_add]
        by_cases q : j = i
        · subst q
          rw [beq_self_eq_true, beq_self_eq_true]
        · have q2 : (j : Int) ≠ (i : Int) := fun z => q (Int.ofNat.inj z)
          rw [beq_eq_false_iff_ne.mpr q, beq_eq_false_iff_ne.mpr q2]
      rw [upd_same, ed, List.range_succ, List.map_append]
      rfl
    · rintro H1 ⟨s1, e1⟩
      refine ⟨(by show 1 ≤ sizeLine; decide), fun l2 h2 => ?_⟩
      refine ⟨D, l2, _, _, rfl, rfl, (same_new h2) _ _ e1, upd_same, (by show 5 + 1 ≤ sizeLine; decide), fun l3 h3 => ?_⟩
      exact k l3 _ ((s1.trans (same_new h2)).trans (same_new h3)) ((s1.trans (same_new h2)).free h3) upd_same

theorem sc_common : FnScope ["one", "other", "rest"] ["one", "other"] (defScope s_common) := ⟨rfl, rfl, rfl, by decide +kernel, rfl, by decide +kernel, by decide +kernel⟩
theorem ok_common (D : Df K mg "common" s_common) (B : Bt mg) : Gd CX0 P w K mg base 1 "common" ["one", "other"] (spCommon) := by
  refine gd_of D sc_common (fun _ _ _ _ _ _ us hl => match us, hl with | [_, _], _ => rfl) (fun vs H Q E h => ?_) (fun f cdv A outer s H vs Q E hr h => ?_)
  · obtain ⟨a, b, rfl, _⟩ := h
    rfl
  · obtain ⟨a, b, rfl, k⟩ := h
    refine ⟨_, PSs.nox (pss_cons (ps_while PassesOwn.never (pt_cmpR op_gt (pv 1) pe_int (nomark _)) (pss_cons (ps_set (i := 2) sc_common.nd rfl (Or.inl rfl) (pe_op op_modN (pv 0) (pv 1))) (pss_cons (ps_set (i := 0) sc_common.nd rfl (Or.inl rfl) (pv 1)) (pss_one (ps_set (i := 1) sc_common.nd rfl (Or.inl rfl) (pv 2))))))
      (pss_one (ps_ret (pv 0)))), ?_⟩
    refine ⟨fun m σ H1 => H1 = H ∧ ∃ (x y : Nat) (r : Option V), σ = [some (.int x), some (.int y), r] ∧ m = y ∧ Nat.gcd x y = Nat.gcd a b, ⟨b, rfl, a, b, none, rfl, rfl, rfl⟩, ?_⟩
    rintro m σ H1 ⟨rfl, x, y, r, rfl, rfl, eg⟩
    refine ⟨_, rfl, _, _, rfl, rfl, _, rfl, ?_⟩
    refine if2 (fun hy => ?_) (fun hy => ?_)
    · have hy : 0 < m := by omega
      refine ⟨fun σ' H' => H' = H1 ∧ ∃ r : Option V, σ' = [some (.int (m : Nat)), some (.int ((x % m : Nat) : Int)), r], ?_, ?_⟩
      · rintro σ' H' ⟨rfl, r', rfl⟩
        refine ⟨x % m, Nat.mod_lt _ hy, rfl, m, x % m, r', rfl, rfl, ?_⟩
        rw [← eg, Nat.gcd_comm x m, Nat.gcd_rec m x, Nat.gcd_comm m]
      · refine ⟨_, rfl, _, rfl, _, _, rfl, rfl, (by omega), ?_⟩
        refine ⟨_, rfl, _, rfl, rfl, some (.int ((x % m : Nat) : Int)), ?_⟩
        have ef : Int.fmod (x : Int) (m : Int) = ((x % m : Nat) : Int) := by rw [Int.fmod_eq_emod_of_nonneg _ (by omega)]; rfl
        exact congrArg (fun z => [some (V.int (m : Nat)), some (V.int z), some (V.int z)]) ef
    · have e : m = 0 := by omega
      subst e
      refine ⟨_, rfl, ?_⟩
      rw [Nat.gcd_zero_right] at eg
      rw [eg]
      exact k

theorem sc_fraction : FnScope ["top", "bottom", "far"] ["top", "bottom"] (defScope s_fraction) := ⟨rfl, rfl, rfl, by decide +kernel, rfl, by decide +kernel, by decide +kernel⟩
theorem ok_fraction (D : Df K mg "fraction" s_fraction) (B : Bt mg) (g_common : Gd CX0 P w K mg base 1 "common" ["one", "other"] (spCommon)) : Gd CX0 P w K mg base 2 "fraction" ["top", "bottom"] (spFraction K) := by
  refine gd_of D sc_fraction (fun _ _ _ _ _ _ us hl => match us, hl with | [_, _], _ => rfl) (fun vs H Q E h => ?_) (fun f cdv A outer s H vs Q E hr h => ?_)
  · obtain ⟨t, b, rfl, _⟩ := h
    rfl
  · obtain ⟨t, b, rfl, hb, hl, k⟩ := h
    refine ⟨_, PSs.nox (pss_cons (ps_if (pt_cmpR op_lt (pv 1) pe_int (nomark _)) (pss_cons (ps_set (i := 0) sc_fraction.nd rfl (Or.inl rfl) (pe_op op_sub pe_int (pv 0))) (pss_one (ps_set (i := 1) sc_fraction.nd rfl (Or.inl rfl) (pe_op op_sub pe_int (pv 1))))) pss_nil)
      (pss_cons (ps_set (i := 2) sc_fraction.nd rfl (Or.inl rfl) (pe_gd g_common hr (pa_cons (pe_callB call_abs (by rfl) B.abs (by decide +kernel) (pa_cons (pv 0) pa_nil)) (pa_cons (pv 1) pa_nil))))
      (pss_one (ps_ret (pe_tup (pa_cons (pe_op op_fdivW (pv 0) (pv 2)) (pa_cons (pe_op op_fdivW (pv 1) (pv 2)) pa_nil))))))), ?_⟩
    refine ⟨_, rfl, _, _, rfl, rfl, _, rfl, ?_⟩
    refine if2 (fun hneg => ?_) (fun hneg => ?_)
    · refine ⟨_, rfl, _, _, rfl, rfl, _, rfl, _, _, rfl, rfl, ?_⟩
      obtain ⟨n, en⟩ : ∃ n : Nat, 0 - b = (n : Int) := ⟨b.natAbs, by omega⟩
      have hn : n ≠ 0 := by omega
      have hl2 : n < 2 ^ 9000 := by rw [show n = b.natAbs by omega]; exact hl
      obtain ⟨c1, c2, e1, e2⟩ := low_facts (0 - t) (0 - b) n en hn hl2
      refine ⟨_, rfl, _, rfl, _, rfl, (0 - t).natAbs, n, (by show [V.int (if 0 - t < 0 then -(0 - t) else 0 - t), V.int (0 - b)] = _; rw [abs_int, en]), ?_⟩
      refine ⟨_, rfl, _, rfl, _, _, rfl, rfl, c1, _, rfl, _, rfl, _, _, rfl, rfl, c2, (by show 2 ≤ sizeLine; decide), fun p hp => ?_⟩
      refine k p _ (same_new hp) ?_
      have er : Rat.divInt t b = mkRat (0 - t) n := by rw [divInt_neg hneg, en, Rat.divInt_ofNat]
      rw [er]
      exact rat_new (congrArg V.int e1) (congrArg V.int e2)
    · obtain ⟨n, rfl⟩ : ∃ n : Nat, b = (n : Int) := ⟨b.natAbs, by omega⟩
      have hn : n ≠ 0 := by omega
      have hl2 : n < 2 ^ 9000 := by rw [Int.natAbs_natCast] at hl; exact hl
      obtain ⟨c1, c2, e1, e2⟩ := low_facts t n n rfl hn hl2
      refine ⟨_, rfl, _, rfl, _, rfl, t.natAbs, n, congrArg (fun z => [V.int z, V.int (n : Nat)]) (abs_int t), ?_⟩
      refine ⟨_, rfl, _, rfl, _, _, rfl, rfl, c1, _, rfl, _, rfl, _, _, rfl, rfl, c2, (by show 2 ≤ sizeLine; decide), fun p hp => ?_⟩
      refine k p _ (same_new hp) ?_
      rw [Rat.divInt_ofNat]
      exact rat_new (congrArg V.int e1) (congrArg V.int e2)

theorem sc_plus : FnScope ["one", "other"] ["one", "other"] (defScope s_plus) := ⟨rfl, rfl, rfl, by decide +kernel, rfl, by decide +kernel, by decide +kernel⟩
theorem ok_plus (D : Df K mg "plus" s_plus) (B : Bt mg) (g_fraction : Gd CX0 P w K mg base 2 "fraction" ["top", "bottom"] (spFraction K)) : Gd CX0 P w K mg base 3 "plus" ["one", "other"] (spOp2 K (· + ·)) := by
  refine gd_of D sc_plus (fun _ _ _ _ _ _ us hl => match us, hl with | [_, _], _ => rfl) (fun vs H Q E h => ?_) (fun f cdv A outer s H vs Q E hr h => ?_)
  · obtain ⟨u, v, p, q, rfl, _⟩ := h
    rfl
  · obtain ⟨u, v, p, q, rfl, hu, hv, ⟨p1, p2⟩, ⟨q1, q2⟩, k⟩ := h
    refine ⟨_, PSs.nox (pss_one (ps_ret (pe_gd g_fraction hr (pa_cons (pe_op op_add (pe_op op_mulW (pe_num 0) (pe_den 1)) (pe_op op_mulW (pe_num 1) (pe_den 0))) (pa_cons (pe_op op_mulW (pe_den 0) (pe_den 1)) pa_nil))))), ?_⟩
    refine ⟨_, p, rfl, hu, _, q, rfl, hv, _, _, rfl, rfl, cm p1 (by rw [natAbs_den]; exact q2), ?_⟩
    refine ⟨_, q, rfl, hv, _, p, rfl, hu, _, _, rfl, rfl, cm q1 (by rw [natAbs_den]; exact p2), _, _, rfl, rfl, ?_⟩
    refine ⟨_, p, rfl, hu, _, q, rfl, hv, _, _, rfl, rfl, cm (by rw [natAbs_den]; exact p2) (by rw [natAbs_den]; exact q2), ?_⟩
    obtain ⟨b1, b2, b3⟩ := den_mul_facts p2 q2
    refine ⟨_, _, rfl, b1, b2, fun r H' s hr => k r H' s ?_⟩
    rw [b3, sum_mk] at hr
    exact hr

theorem sc_minus : FnScope ["one", "other"] ["one", "other"] (defScope s_minus) := ⟨rfl, rfl, rfl, by decide +kernel, rfl, by decide +kernel, by decide +kernel⟩
theorem ok_minus (D : Df K mg "minus" s_minus) (B : Bt mg) (g_fraction : Gd CX0 P w K mg base 2 "fraction" ["top", "bottom"] (spFraction K)) : Gd CX0 P w K mg base 3 "minus" ["one", "other"] (spOp2 K (· - ·)) := by
  refine gd_of D sc_minus (fun _ _ _ _ _ _ us hl => match us, hl with | [_, _], _ => rfl) (fun vs H Q E h => ?_) (fun f cdv A outer s H vs Q E hr h => ?_)
  · obtain ⟨u, v, p, q, rfl, _⟩ := h
    rfl
  · obtain ⟨u, v, p, q, rfl, hu, hv, ⟨p1, p2⟩, ⟨q1, q2⟩, k⟩ := h
    refine ⟨_, PSs.nox (pss_one (ps_ret (pe_gd g_fraction hr (pa_cons (pe_op op_sub (pe_op op_mulW (pe_num 0) (pe_den 1)) (pe_op op_mulW (pe_num 1) (pe_den 0))) (pa_cons (pe_op op_mulW (pe_den 0) (pe_den 1)) pa_nil))))), ?_⟩
    refine ⟨_, p, rfl, hu, _, q, rfl, hv, _, _, rfl, rfl, cm p1 (by rw [natAbs_den]; exact q2), ?_⟩
    refine ⟨_, q, rfl, hv, _, p, rfl, hu, _, _, rfl, rfl, cm q1 (by rw [natAbs_den]; exact p2), _, _, rfl, rfl, ?_⟩
    refine ⟨_, p, rfl, hu, _, q, rfl, hv, _, _, rfl, rfl, cm (by rw [natAbs_den]; exact p2) (by rw [natAbs_den]; exact q2), ?_⟩
    obtain ⟨b1, b2, b3⟩ := den_mul_facts p2 q2
    refine ⟨_, _, rfl, b1, b2, fun r H' s hr => k r H' s ?_⟩
    rw [b3, dif_mk] at hr
    exact hr

theorem sc_times : FnScope ["one", "other"] ["one", "other"] (defScope s_times) := ⟨rfl, rfl, rfl, by decide +kernel, rfl, by decide +kernel, by decide +kernel⟩
theorem ok_times (D : Df K mg "times" s_times) (B : Bt mg) (g_fraction : Gd CX0 P w K mg base 2 "fraction" ["top", "bottom"] (spFraction K)) : Gd CX0 P w K mg base 3 "times" ["one", "other"] (spOp2 K (· * ·)) := by
  refine gd_of D sc_times (fun _ _ _ _ _ _ us hl => match us, hl with | [_, _], _ => rfl) (fun vs H Q E h => ?_) (fun f cdv A outer s H vs Q E hr h => ?_)
  · obtain ⟨u, v, p, q, rfl, _⟩ := h
    rfl
  · obtain ⟨u, v, p, q, rfl, hu, hv, ⟨p1, p2⟩, ⟨q1, q2⟩, k⟩ := h
    refine ⟨_, PSs.nox (pss_one (ps_ret (pe_gd g_fraction hr (pa_cons (pe_op op_mulW (pe_num 0) (pe_num 1)) (pa_cons (pe_op op_mulW (pe_den 0) (pe_den 1)) pa_nil))))), ?_⟩
    refine ⟨_, p, rfl, hu, _, q, rfl, hv, _, _, rfl, rfl, cm p1 q1, ?_⟩
    refine ⟨_, p, rfl, hu, _, q, rfl, hv, _, _, rfl, rfl, cm (by rw [natAbs_den]; exact p2) (by rw [natAbs_den]; exact q2), ?_⟩
    obtain ⟨b1, b2, b3⟩ := den_mul_facts p2 q2
    refine ⟨_, _, rfl, b1, b2, fun r H' s hr => k r H' s ?_⟩
    rw [b3, mul_mk] at hr
    exact hr

theorem sc_step : FnScope ["walls", "right", "left", "many", "to_right", "to_left", "k", "back"] ["walls", "right", "left"] (defScope s_step) := ⟨rfl, rfl, rfl, by decide +kernel, rfl, by decide +kernel, by decide +kernel⟩
theorem ok_step (D : Df K mg "step" s_step) (B : Bt mg) (g_plus : Gd CX0 P w K mg base 3 "plus" ["one", "other"] (spOp2 K (· + ·))) (g_minus : Gd CX0 P w K mg base 3 "minus" ["one", "other"] (spOp2 K (· - ·))) (g_times : Gd CX0 P w K mg base 3 "times" ["one", "other"] (spOp2 K (· * ·))) (hN : KonstQ K mg "NOUGHT" 0) : Gd CX0 P w K mg base 4 "step" ["walls", "right", "left"] (spStep K) := by
  obtain ⟨aN, mN, tN⟩ := hN
  refine gd_of D sc_step (fun _ _ _ _ _ _ us hl => match us, hl with | [_, _, _], _ => rfl) (fun vs H Q E h => ?_) (fun f cdv A outer s H vs Q E hr h => ?_)
  · obtain ⟨lw, lr, ll, ws, r, l, rfl, _⟩ := h
    rfl
  · obtain ⟨lw, lr, ll, ws, r, l, rfl, hw, hrr, hll, h8, ok, k⟩ := h
    refine ⟨_, PSs.nox (pss_cons (ps_set (i := 3) sc_step.nd rfl (Or.inl rfl) (pe_callB call_len_seq (by rfl) B.len (by decide +kernel) (pa_cons (pv 0) pa_nil)))
      (pss_cons (ps_setLc (i := 4) (own := [("k", 6)]) (g := (gName 6)) (tt := tYes) rfl sc_step.nd rfl rfl (sw_true rfl rfl rfl (by decide +kernel)) (pi_range1 (by rfl) B.range (pa_cons (pe_op op_add (pv 3) pe_int) pa_nil)) (blkOk_by (own := [("k", 6)]) (N := ["walls", "right", "left", "many", "to_right", "to_left", "k", "back"]) (sc := defScope s_step) (by decide +kernel)) (fun _ _ _ _ _ => (pg_name (i := 6) sc_step.nd rfl (Or.inl rfl))) (fun _ _ _ _ _ => pts_nil) (fun _ _ _ _ _ => (pe_glob (v := .ref aN) rfl mN rfl)))
      (pss_cons (ps_setLc (i := 5) (own := [("k", 6)]) (g := (gName 6)) (tt := tYes) rfl sc_step.nd rfl rfl (sw_true rfl rfl rfl (by decide +kernel)) (pi_range1 (by rfl) B.range (pa_cons (pe_op op_add (pv 3) pe_int) pa_nil)) (blkOk_by (own := [("k", 6)]) (N := ["walls", "right", "left", "many", "to_right", "to_left", "k", "back"]) (sc := defScope s_step) (by decide +kernel)) (fun _ _ _ _ _ => (pg_name (i := 6) sc_step.nd rfl (Or.inl rfl))) (fun _ _ _ _ _ => pts_nil) (fun _ _ _ _ _ => (pe_glob (v := .ref aN) rfl mN rfl)))
      (pss_cons (ps_for PassesOwn.never rfl (pi_range1 (by rfl) B.range (pa_cons (pv 3) pa_nil)) (pg_name (i := 6) sc_step.nd rfl (Or.inl rfl)) (pss_cons (ps_set (i := 7) sc_step.nd rfl (Or.inl rfl) (pe_gd g_times hr (pa_cons (pe_ix ix_list (pv 1) (pv 6) (fun _ _ => rfl)) (pa_cons (pe_ix ix_list (pv 0) (pv 6) (fun _ _ => rfl)) pa_nil)))) (pss_cons (ps_asg (pe_gd g_plus hr (pa_cons (pe_ix ix_list (pv 5) (pv 6) (fun _ _ => rfl)) (pa_cons (pv 7) pa_nil))) (pg_sub (pv 5) (pv 6) set_list)) (pss_cons (ps_asg (pe_gd g_plus hr (pa_cons (pe_ix ix_list (pv 4) (pe_op op_add (pv 6) pe_int) (fun _ _ => rfl)) (pa_cons (pe_gd g_minus hr (pa_cons (pe_ix ix_list (pv 1) (pv 6) (fun _ _ => rfl)) (pa_cons (pv 7) pa_nil))) pa_nil))) (pg_sub (pv 4) (pe_op op_add (pv 6) pe_int) set_list)) (pss_cons (ps_set (i := 7) sc_step.nd rfl (Or.inl rfl) (pe_gd g_times hr (pa_cons (pe_ix ix_list (pv 2) (pe_op op_add (pv 6) pe_int) (fun _ _ => rfl)) (pa_cons (pe_ix ix_list (pv 0) (pv 6) (fun _ _ => rfl)) pa_nil)))) (pss_cons (ps_asg (pe_gd g_plus hr (pa_cons (pe_ix ix_list (pv 4) (pe_op op_add (pv 6) pe_int) (fun _ _ => rfl)) (pa_cons (pv 7) pa_nil))) (pg_sub (pv 4) (pe_op op_add (pv 6) pe_int) set_list)) (pss_one (ps_asg (pe_gd g_plus hr (pa_cons (pe_ix ix_list (pv 5) (pv 6) (fun _ _ => rfl)) (pa_cons (pe_gd g_minus hr (pa_cons (pe_ix ix_list (pv 2) (pe_op op_add (pv 6) pe_int) (fun _ _ => rfl)) (pa_cons (pv 7) pa_nil))) pa_nil))) (pg_sub (pv 5) (pv 6) set_list)))))))))
      (pss_one (ps_ret (pe_tup (pa_cons (pv 4) (pa_cons (pv 5) (pa_cons (pe_ix ix_list (pv 2) pe_int (fun _ _ => rfl)) (pa_cons (pe_ix ix_list (pv 1) (pv 3) (fun _ _ => rfl)) pa_nil))))))))))), ?_⟩
    obtain ⟨xs, ex, rx⟩ := id hw
    have e1 : ((ws.length : Int) + 1).toNat = ws.length + 1 := by omega
    refine ⟨_, rfl, lw, xs, rfl, .inl (SqL.of ex), ?_⟩
    rw [rx.1]
    -- to_right, all noughts
    refine ⟨_, rfl, _, _, rfl, rfl, _, rfl, by omega, by omega, fun D hD => ?_⟩
    rw [e1]
    refine lc_range (lo := 0) (n := ws.length + 1) (fun i H' => Same H H' ∧ RL K H' D (List.replicate i 0)) ⟨same_new hD, RL.new hD Rats.nil⟩ ?_ ?_
    · rintro i H1 hi ⟨s1, acc, ea, ra⟩
      refine ⟨rfl, yesQ (ifT rfl ⟨acc, ea, small1000 (by rw [ra.1, List.length_replicate]; omega), same_but s1 hD (fun b hb => upd_ne hb), ?_⟩)⟩
      rw [List.replicate_succ']
      exact RL.upd ea (ra.push (tN _))
    rintro H1 ⟨s1, rD⟩
    rw [rep_tab] at rD
    -- to_left, all noughts
    refine ⟨_, rfl, _, _, rfl, rfl, _, rfl, by omega, by omega, fun G hG => ?_⟩
    rw [e1]
    refine lc_range (lo := 0) (n := ws.length + 1) (fun i H' => Same H1 H' ∧ RL K H' G (List.replicate i 0)) ⟨same_new hG, RL.new hG Rats.nil⟩ ?_ ?_
    · rintro i H2 hi ⟨s2, acc, ea, ra⟩
      refine ⟨rfl, yesQ (ifT rfl ⟨acc, ea, small1000 (by rw [ra.1, List.length_replicate]; omega), same_but s2 hG (fun b hb => upd_ne hb), ?_⟩)⟩
      rw [List.replicate_succ']
      exact RL.upd ea (ra.push (tN _))
    rintro H2 ⟨s2, rG⟩
    rw [rep_tab] at rG
    have nDG : D ≠ G := by
      obtain ⟨ys, ey, _⟩ := rD
      exact ne_of_none ey hG
    have hG0 : H G = none := s1.free hG
    -- wall by wall
    refine ⟨_, rfl, _, rfl, by omega, by omega, ?_⟩
    rw [Int.toNat_natCast]
    refine for_range (lo := 0) (n := ws.length) (fun i σ H' => ∃ kv bv : Option V, σ = [some (.ref lw), some (.ref lr), some (.ref ll), some (.int (ws.length : Int)), some (.ref D), some (.ref G), kv, bv] ∧ Same H H' ∧
      RL K H' D (tab ws.length (fun j => if j ≤ i then nR (at0 ws) r l j else 0)) ∧ RL K H' G (tab ws.length (fun j => if j < i then nL ws.length (at0 ws) r l j else 0))) ⟨none, none, rfl, s1.trans s2, ?_, ?_⟩ ?_ ?_
    · refine (congrArg (RL K H2 D) (tab_congr fun j _ => ?_)).mp (rD.same s2)
      by_cases h0 : j ≤ 0
      · have e0 : j = 0 := by omega
        subst e0
        rfl
      · rw [if_neg h0]
    · exact (congrArg (RL K H2 G) (tab_congr fun j _ => by rw [if_neg (by omega)])).mp rG
    · rintro i σ H3 hi ⟨kv, bv, rfl, s3, rD3, rG3⟩
      have oki := ok i hi
      have z0 : Sm 0 := ⟨by decide, by decide⟩
      -- back = times(right[k], walls[k])
      refine ⟨_, rfl, _, rfl, ixr (hrr.same s3) (tab_get (Nat.le_of_lt hi)) (by omega) fun v1 a1 => ?_⟩
      refine ⟨_, rfl, _, rfl, ixr (hw.same s3) (at0_get hi) (by omega) fun v2 a2 => ?_⟩
      refine ⟨_, _, _, _, rfl, a1, a2, oki.sa, oki.sw, fun b1 H4 s4 rb1 => ?_⟩
      have s04 := s3.trans s4
      -- to_left[k] = plus(to_left[k], back)
      refine ⟨_, rfl, _, rfl, ixr (rG3.same s4) (tab_get (Nat.le_of_lt hi)) (by omega) fun v3 a3 => ?_⟩
      rw [if_neg (by omega)] at a3
      refine ⟨_, rfl, _, _, _, _, rfl, a3, rb1, z0, oki.aw, fun b2 H5 s5 rb2 => ?_⟩
      refine ⟨_, rfl, _, rfl, ixs ((rG3.same s4).same s5) (i := i) (by rw [tab_len]; omega) (by omega) rb2 fun H6 k6 o6 rG6 => ?_⟩
      have s06 : Same H H6 := same_but (s04.trans s5) hG0 o6
      have rD6 : RL K H6 D _ := ((rD3.same s4).same s5).kt k6 (o6 D nDG)
      have rb16 : RatAt K H6 (.ref b1) _ := (rb1.same s5).kt k6
      -- to_right[k + 1] = plus(to_right[k + 1], minus(right[k], back))
      refine ⟨_, rfl, _, rfl, _, _, rfl, rfl, ixr (k := i + 1) rD6 (tab_get hi) (by omega) fun v4 a4 => ?_⟩
      rw [if_neg (by omega)] at a4
      refine ⟨_, rfl, _, rfl, ixr (hrr.same s06) (tab_get (Nat.le_of_lt hi)) (by omega) fun v5 a5 => ?_⟩
      refine ⟨_, rfl, _, _, _, _, rfl, a5, rb16, oki.sa, oki.aw, fun b3 H7 s7 rb3 => ?_⟩
      refine ⟨_, _, _, _, rfl, a4.same s7, rb3, z0, oki.ad, fun b4 H8 s8 rb4 => ?_⟩
      refine ⟨_, rfl, _, rfl, _, _, rfl, rfl, ixs ((rD6.same s7).same s8) (i := i + 1) (by rw [tab_len]; omega) (by omega) rb4 fun H9 k9 o9 rD9 => ?_⟩
      have s09 : Same H H9 := same_but ((s06.trans s7).trans s8) hD o9
      have rG9 : RL K H9 G _ := ((rG6.same s7).same s8).kt k9 (o9 G nDG.symm)
      -- back = times(left[k + 1], walls[k])
      refine ⟨_, rfl, _, rfl, _, _, rfl, rfl, ixr (k := i + 1) (hll.same s09) (tab_get hi) (by omega) fun v6 a6 => ?_⟩
      refine ⟨_, rfl, _, rfl, ixr (hw.same s09) (at0_get hi) (by omega) fun v7 a7 => ?_⟩
      refine ⟨_, _, _, _, rfl, a6, a7, oki.sb, oki.sw, fun b5 HA sA rb5 => ?_⟩
      -- to_right[k + 1] = plus(to_right[k + 1], back)
      rw [tab_set] at rD9
      refine ⟨_, rfl, _, rfl, _, _, rfl, rfl, ixr (k := i + 1) (rD9.same sA) (tab_get hi) (by omega) fun v8 a8 => ?_⟩
      rw [if_pos rfl] at a8
      have e8 : (0 : Rat) + (r i - r i * at0 ws i) = r i - r i * at0 ws i := Rat.zero_add _
      have a8' : RatAt K HA v8 (r i - r i * at0 ws i) := e8 ▸ a8
      refine ⟨_, rfl, _, _, _, _, rfl, a8', rb5, oki.ad, oki.bw, fun b6 HB sB rb6 => ?_⟩
      refine ⟨_, rfl, _, rfl, _, _, rfl, rfl, ixs ((rD9.same sA).same sB) (i := i + 1) (by rw [tab_len]; omega) (by omega) rb6 fun HC kC oC rDC => ?_⟩
      have s0C : Same H HC := same_but ((s09.trans sA).trans sB) hD oC
      have rGC : RL K HC G _ := ((rG9.same sA).same sB).kt kC (oC G nDG.symm)
      have rb5C : RatAt K HC (.ref b5) _ := (rb5.same sB).kt kC
      -- to_left[k] = plus(to_left[k], minus(left[k + 1], back))
      rw [tab_set] at rGC
      refine ⟨_, rfl, _, rfl, ixr rGC (tab_get (Nat.le_of_lt hi)) (by omega) fun v9 a9 => ?_⟩
      rw [if_pos rfl] at a9
      have e9 : (0 : Rat) + r i * at0 ws i = r i * at0 ws i := Rat.zero_add _
      have a9' : RatAt K HC v9 (r i * at0 ws i) := e9 ▸ a9
      refine ⟨_, rfl, _, rfl, _, _, rfl, rfl, ixr (k := i + 1) (hll.same s0C) (tab_get hi) (by omega) fun vA aA => ?_⟩
      refine ⟨_, rfl, _, _, _, _, rfl, aA, rb5C, oki.sb, oki.bw, fun b7 HD sD rb7 => ?_⟩
      refine ⟨_, _, _, _, rfl, a9'.same sD, rb7, oki.aw, oki.bd, fun b8 HE sE rb8 => ?_⟩
      refine ⟨_, rfl, _, rfl, ixs ((rGC.same sD).same sE) (i := i) (by rw [tab_len]; omega) (by omega) rb8 fun HF kF oF rGF => ?_⟩
      refine ⟨_, _, rfl, same_but ((s0C.trans sD).trans sE) hG0 oF, ?_, ?_⟩
      · have z := ((rDC.same sD).same sE).kt kF (oF D nDG)
        rw [tab_set] at z
        refine (congrArg (RL K HF D) (tab_congr fun j _ => ?_)).mp z
        by_cases h1 : j = i + 1
        · subst h1
          rw [if_pos rfl, if_pos (Nat.le_refl _)]
          show _ = nR (at0 ws) r l (i + 1)
          unfold nR
          rw [if_neg (by omega), Nat.add_sub_cancel]
          grind
        · rw [if_neg h1, if_neg h1]
          by_cases h2 : j ≤ i
          · rw [if_pos h2, if_pos (by omega)]
          · rw [if_neg h2, if_neg (by omega)]
      · rw [tab_set] at rGF
        refine (congrArg (RL K HF G) (tab_congr fun j _ => ?_)).mp rGF
        by_cases h1 : j = i
        · subst h1
          rw [if_pos rfl, if_pos (by omega)]
          unfold nL
          rw [if_pos hi]
          grind
        · rw [if_neg h1, if_neg h1]
          by_cases h2 : j < i
          · rw [if_pos h2, if_pos (by omega)]
          · rw [if_neg h2, if_neg (by omega)]
    · rintro σ H3 ⟨kv, bv, rfl, s3, rD3, rG3⟩
      refine ⟨_, rfl, _, rfl, _, rfl, cI (ixr (k := 0) (hll.same s3) (tab_get (Nat.zero_le _)) (by omega) fun u hu => ?_)⟩
      refine ⟨_, rfl, _, rfl, ixr (hrr.same s3) (tab_get (Nat.le_refl _)) (by omega) fun v hv => ?_⟩
      refine ⟨(by show 4 ≤ sizeLine; decide), fun p hp => ?_⟩
      refine k p D G u v _ (s3.trans (same_new hp)) (s3.free hp) hD hG0 nDG upd_same ?_ ?_ (hu.same (same_new hp)) (hv.same (same_new hp))
      · refine (congrArg (RL K _ D) (tab_congr fun j hj => ?_)).mp (rD3.same (same_new hp))
        rw [if_pos hj]
      · refine (congrArg (RL K _ G) (tab_congr fun j hj => ?_)).mp (rG3.same (same_new hp))
        by_cases h1 : j < ws.length
        · rw [if_pos h1]
        · rw [if_neg h1]
          unfold nL
          rw [if_neg h1]

theorem sc_run : FnScope ["field", "moment", "walls", "right", "left", "ears", "gone", "k", "one", "other", "wall"] ["field", "moment"] (defScope s_run) := ⟨rfl, rfl, rfl, by decide +kernel, rfl, by decide +kernel, by decide +kernel⟩
theorem ok_run (D : Df K mg "run" s_run) (B : Bt mg) (g_step : Gd CX0 P w K mg base 4 "step" ["walls", "right", "left"] (spStep K)) (hN : KonstQ K mg "NOUGHT" 0) (hO : KonstQ K mg "ONE" 1) (TF : FTx K mg) (gW : WallsOk P w K mg base) : Gd CX0 P w K mg base 5 "run" ["field", "moment"] (spRun K) := by
  obtain ⟨aN, mN, tN⟩ := hN
  obtain ⟨aO, mO, tO⟩ := hO
  obtain ⟨fW, fdW, FW, MW, bW⟩ := gW
  refine gd_of D sc_run (fun _ _ _ _ _ _ us hl => match us, hl with | [_, _], _ => rfl) (fun vs H Q E h => ?_) (fun f cdv A outer s H vs Q E hr h => ?_)
  · obtain ⟨f, l, ws, m, rfl, _⟩ := h
    rfl
  · obtain ⟨f, l, ws, m, rfl, hF, h8, h40, ok, k⟩ := h
    refine ⟨_, PSs.nox (pss_cons (ps_if (pt_not (pt_chain op_le op_le pe_int (pv 1) pe_int)) (pss_one ps_never) pss_nil)
      (pss_cons (ps_set (i := 2) sc_run.nd rfl (Or.inl rfl) (pe_meth0 (pv 0) TF.cl MW FW (hr.mono (by decide)) bW .nil pass0))
      (pss_cons (ps_set (i := 3) sc_run.nd rfl (Or.inl rfl) (pe_op op_cat (pe_lst (pa_cons (pe_glob (v := .ref aO) rfl mO rfl) pa_nil)) (pe_lc (own := [("wall", 10)]) (g := (gName 10)) (tt := tYes) rfl sc_run.nd (pi_list (pv 2)) (blkOk_by (own := [("wall", 10)]) (N := ["field", "moment", "walls", "right", "left", "ears", "gone", "k", "one", "other", "wall"]) (sc := defScope s_run) (by decide +kernel)) (fun _ _ _ _ _ => (pg_name (i := 10) sc_run.nd rfl (Or.inl rfl))) (fun _ _ _ _ _ => pts_nil) (fun _ _ _ _ _ => (pe_glob (v := .ref aN) rfl mN rfl)))))
      (pss_cons (ps_setLc (i := 4) (own := [("k", 7)]) (g := (gName 7)) (tt := tYes) rfl sc_run.nd rfl rfl (sw_true rfl rfl rfl (by decide +kernel)) (pi_list (pv 3)) (blkOk_by (own := [("k", 7)]) (N := ["field", "moment", "walls", "right", "left", "ears", "gone", "k", "one", "other", "wall"]) (sc := defScope s_run) (by decide +kernel)) (fun _ _ _ _ _ => (pg_name (i := 7) sc_run.nd rfl (Or.inl rfl))) (fun _ _ _ _ _ => pts_nil) (fun _ _ _ _ _ => (pe_glob (v := .ref aN) rfl mN rfl)))
      (pss_cons (ps_set (i := 5) sc_run.nd rfl (Or.inl rfl) (pe_lst pa_nil))
      (pss_cons (ps_set (i := 6) sc_run.nd rfl (Or.inl rfl) (pe_lst pa_nil))
      (pss_cons (ps_for PassesOwn.never rfl (pi_range1 (by rfl) B.range (pa_cons (pv 1) pa_nil)) (pg_name (i := 7) sc_run.nd rfl (Or.inl rfl)) (pss_cons (ps_asg (pe_gd g_step hr (pa_cons (pv 2) (pa_cons (pv 3) (pa_cons (pv 4) pa_nil)))) (pg_tup (by rfl) (pgs_cons (pg_name (i := 3) sc_run.nd rfl (Or.inl rfl)) (pgs_cons (pg_name (i := 4) sc_run.nd rfl (Or.inl rfl)) (pgs_cons (pg_name (i := 8) sc_run.nd rfl (Or.inl rfl)) (pgs_cons (pg_name (i := 9) sc_run.nd rfl (Or.inl rfl)) pgs_nil)))))) (pss_cons (ps_expr (pe_bm PySem.F.plainAttrs_list PySem.F.slot_list_append PySem.F.type_list_append mt_append (pv 5) (pa_cons (pv 8) pa_nil))) (pss_one (ps_expr (pe_bm PySem.F.plainAttrs_list PySem.F.slot_list_append PySem.F.type_list_append mt_append (pv 6) (pa_cons (pv 9) pa_nil)))))))
      (pss_one (ps_ret (pe_tup (pa_cons (pv 3) (pa_cons (pv 4) (pa_cons (pv 5) (pa_cons (pv 6) pa_nil)))))))))))))), ?_⟩
    -- the moment
    refine ⟨_, rfl, _, _, rfl, rfl, true, congrArg V.bl (decide_eq_true (by omega)), ifT rfl ⟨_, _, rfl, rfl, true, congrArg V.bl (decide_eq_true (by omega)), ifF rfl ?_⟩⟩
    -- walls = field.walls()
    refine ⟨_, rfl, ask_walls hF (by omega) fun lw H1 nw s1 hw => ?_⟩
    obtain ⟨xs, ex, rx⟩ := id hw
    -- right = [ONE] + [NOUGHT for wall in walls]
    refine ⟨(by show 1 ≤ sizeLine; decide), fun lo ho => ?_⟩
    have s2 : Same H (upd H1 lo (.lst [.ref aO])) := s1.trans (same_new ho)
    refine ⟨_, rfl, lw, rfl, ⟨xs, .inl (.inl ((same_new ho) _ _ ex))⟩, fun D hD => ?_⟩
    refine lc_list (K := K) (a := lw) (xs := xs) (fun i H' => Same (upd H1 lo (.lst [.ref aO])) H' ∧ RL K H' D (List.replicate i 0)) ⟨same_new hD, RL.new hD Rats.nil⟩ (fun i H' _ ⟨s3, _⟩ => .inl (.inl (s3 _ _ ((same_new ho) _ _ ex)))) ?_ ?_
    · rintro i v H2 hi ⟨s3, acc, ea, ra⟩
      have hil : i < xs.length := (List.getElem?_eq_some_iff.mp hi).1
      refine ⟨rfl, yesQ (ifT rfl ⟨acc, ea, small1000 (by rw [ra.1, List.length_replicate]; have := rx.1; omega), same_but s3 hD (fun b hb => upd_ne hb), ?_⟩)⟩
      rw [List.replicate_succ']
      exact RL.upd ea (ra.push (tN _))
    rintro H2 ⟨s3, ys, ey, ry⟩
    rw [rx.1] at ry
    refine ⟨lo, D, [.ref aO], ys, rfl, rfl, s3 _ _ upd_same, ey, ?_, fun lr hr0 => ?_⟩
    · have := ry.1
      rw [List.length_replicate] at this
      rw [this]
      exact Nat.le_trans (show 1 + ws.length ≤ 1000 by omega) (by decide)
    have s4 : Same H (upd H2 lr (.lst ([.ref aO] ++ ys))) := (s2.trans s3).trans (same_new hr0)
    have hlr : RL K (upd H2 lr (.lst ([.ref aO] ++ ys))) lr (tab ws.length (fun j => if j = 0 then 1 else 0)) := by
      rw [← one_tab]
      exact RL.new hr0 ((Rats.one (tO _)).append ry)
    have nlr : H lr = none := (s2.trans s3).free hr0
    generalize hH3 : upd H2 lr (.lst ([.ref aO] ++ ys)) = H3 at s4 hlr ⊢
    -- left = [NOUGHT for k in right]
    obtain ⟨zs, ez, rz⟩ := id hlr
    refine ⟨_, rfl, lr, rfl, ⟨zs, SqL.of ez⟩, fun G hG => ?_⟩
    refine lc_list (K := K) (a := lr) (xs := zs) (fun i H' => Same H3 H' ∧ RL K H' G (List.replicate i 0)) ⟨same_new hG, RL.new hG Rats.nil⟩ (fun i H' _ ⟨s5, _⟩ => SqL.of (s5 _ _ ez)) ?_ ?_
    · rintro i v H4 hi ⟨s5, acc, ea, ra⟩
      have hil : i < zs.length := (List.getElem?_eq_some_iff.mp hi).1
      have hzl := rz.1
      rw [tab_len] at hzl
      refine ⟨rfl, yesQ (ifT rfl ⟨acc, ea, small1000 (by rw [ra.1, List.length_replicate]; omega), same_but s5 hG (fun b hb => upd_ne hb), ?_⟩)⟩
      rw [List.replicate_succ']
      exact RL.upd ea (ra.push (tN _))
    rintro H4 ⟨s5, rG⟩
    rw [rz.1, tab_len, rep_tab] at rG
    have nG : H G = none := s4.free hG
    have s6 := s4.trans s5
    -- ears, gone
    refine ⟨Nat.zero_le _, fun e he => ⟨Nat.zero_le _, fun g hg => ?_⟩⟩
    have s7 : Same H (upd (upd H4 e (.lst [])) g (.lst [])) := s6.trans ((same_new he).trans (same_new hg))
    have ne : H e = none := s6.free he
    have ng : H g = none := (s6.trans (same_new he)).free hg
    have neg : e ≠ g := fun z => by
      rw [← z, upd_same] at hg
      cases hg
    -- moment by moment
    refine ⟨_, rfl, _, rfl, by omega, by omega, ?_⟩
    rw [Int.toNat_natCast]
    refine for_range (lo := 0) (n := m) (fun t σ H' => ∃ (a b : Addr) (k1 k2 k3 : Option V), σ = [some (.ref f), some (.int (m : Int)), some (.ref lw), some (.ref a), some (.ref b), some (.ref e), some (.ref g), k1, k2, k3, none] ∧ Same H H' ∧ RL K H' lw ws ∧
      RL K H' a (tab ws.length (goR ws.length (at0 ws) t)) ∧ RL K H' b (tab ws.length (goL ws.length (at0 ws) t)) ∧ RL K H' e (ears ws.length (at0 ws) t) ∧ RL K H' g (gone ws.length (at0 ws) t) ∧ H a = none ∧ H b = none ∧ a ≠ b ∧ a ≠ e ∧ a ≠ g ∧ b ≠ e ∧ b ≠ g ∧ lw ≠ e ∧ lw ≠ g) ?_ ?_ ?_
    · have rlr : RL K (upd (upd H4 e (.lst [])) g (.lst [])) lr (tab ws.length (fun j => if j = 0 then 1 else 0)) := ((hlr.same s5).same (same_new he)).same (same_new hg)
      have elr : H4 lr ≠ none := by
        obtain ⟨us, eu, _⟩ := hlr.same s5
        rw [eu]
        exact fun z => nomatch z
      have eG : H4 G ≠ none := by
        obtain ⟨us, eu, _⟩ := rG
        rw [eu]
        exact fun z => nomatch z
      have elw : H4 lw ≠ none := by
        have z : H3 lw = some (.lst xs) := by
          rw [← hH3]
          exact same_new hr0 _ _ (s3 _ _ (same_new ho _ _ ex))
        rw [s5 _ _ z]
        exact fun z => nomatch z
      have far : ∀ q, H4 q ≠ none → q ≠ e ∧ q ≠ g := fun q hq => by
        have h1 : q ≠ e := fun z => hq (by rw [z]; exact he)
        refine ⟨h1, fun z => hq ?_⟩
        rw [z] at h1 ⊢
        rw [upd_ne h1] at hg
        exact hg
      have hw4 : RL K H4 lw ws := by
        have z : H3 lw = some (.lst xs) := by
          rw [← hH3]
          exact same_new hr0 _ _ (s3 _ _ (same_new ho _ _ ex))
        have k14 : Kt H1 H4 := by
          refine Kt.trans ?_ (kt_of s5)
          rw [← hH3]
          exact kt_of ((same_new ho).trans (s3.trans (same_new hr0)))
        exact ⟨xs, s5 _ _ z, rx.kt k14⟩
      refine ⟨lr, G, none, none, none, rfl, s7, (hw4.same (same_new he)).same (same_new hg), rlr, (rG.same (same_new he)).same (same_new hg), (RL.new he Rats.nil).same (same_new hg), RL.new hg Rats.nil, nlr, nG, ?_, (far lr elr).1, (far lr elr).2, (far G eG).1, (far G eG).2, (far lw elw).1, (far lw elw).2⟩
      exact ne_of_none ez hG
    · rintro t σ H5 ht ⟨a, b, k1, k2, k3, rfl, s8, rw5, ra5, rb5, re5, rg5, na, nb, nab, ae, ag, be, bg, we, wg⟩
      have okt := ok t ht
      refine ⟨_, rfl, _, rfl, _, rfl, lw, a, b, ws, _, _, rfl, rw5, ra5, rb5, h8, okt, fun p a' b' u v H6 s9 np na' nb' nab' ep ra6 rb6 ru rv => ?_⟩
      refine ⟨p, _, rfl, SqT.of ep, rfl, _, _, rfl, _, _, rfl, _, _, rfl, _, _, rfl, ⟨rfl, ?_⟩⟩
      have far : ∀ q, H5 q ≠ none → a' ≠ q ∧ b' ≠ q := fun q hq => ⟨fun z => hq (by rw [← z]; exact na'), fun z => hq (by rw [← z]; exact nb')⟩
      have ee : H5 e ≠ none := by
        obtain ⟨us, eu, _⟩ := re5
        rw [eu]
        exact fun z => nomatch z
      have eg : H5 g ≠ none := by
        obtain ⟨us, eu, _⟩ := rg5
        rw [eu]
        exact fun z => nomatch z
      have s10 := s8.trans s9
      refine ⟨_, rfl, ty_list (re5.same s9), _, rfl, nI (ixa (re5.same s9) (by rw [ears_len]; omega) ru fun H7 k7 o7 re7 => ?_)⟩
      have s11 : Same H H7 := same_but s10 ne o7
      refine ⟨_, rfl, ty_list ((rg5.same s9).kt k7 (o7 g neg.symm)), _, rfl, nI (ixa ((rg5.same s9).kt k7 (o7 g neg.symm)) (by rw [gone_len]; omega) (rv.kt k7) fun H8 k8 o8 rg8 => ?_)⟩
      have s12 : Same H H8 := same_but s11 ng o8
      refine ⟨a', b', _, _, _, rfl, s12, ((rw5.same s9).kt k7 (o7 lw we)).kt k8 (o8 lw wg), (ra6.kt k7 (o7 a' (far e ee).1)).kt k8 (o8 a' (far g eg).1), (rb6.kt k7 (o7 b' (far e ee).2)).kt k8 (o8 b' (far g eg).2), ?_, ?_, s8.free na', s8.free nb', nab', (far e ee).1, (far g eg).1, (far e ee).2, (far g eg).2, we, wg⟩
      · rw [ears_succ]
        exact re7.kt k8 (o8 e neg)
      · rw [gone_succ]
        exact rg8
    · rintro σ H5 ⟨a, b, k1, k2, k3, rfl, s8, rw5, ra5, rb5, re5, rg5, na, nb, nab, _⟩
      refine ⟨_, rfl, _, rfl, _, rfl, _, rfl, (by show 4 ≤ sizeLine; decide), fun p hp => ?_⟩
      have sp := same_new (u := .tup [.ref a, .ref b, .ref e, .ref g]) hp
      exact k p a b e g _ (s8.trans sp) ⟨upd_same, ra5.same sp, rb5.same sp, re5.same sp, rg5.same sp, na, nb, ne, ng, nab⟩

theorem sc_heard : FnScope ["field", "moment"] ["field", "moment"] (defScope s_heard) := ⟨rfl, rfl, rfl, by decide +kernel, rfl, by decide +kernel, by decide +kernel⟩
theorem ok_heard (D : Df K mg "heard" s_heard) (B : Bt mg) (g_run : Gd CX0 P w K mg base 5 "run" ["field", "moment"] (spRun K)) : Gd CX0 P w K mg base 6 "heard" ["field", "moment"] (spHeard K) := by
  refine gd_of D sc_heard (fun _ _ _ _ _ _ us hl => match us, hl with | [_, _], _ => rfl) (fun vs H Q E h => ?_) (fun f cdv A outer s H vs Q E hr h => ?_)
  · obtain ⟨f, l, ws, m, rfl, _⟩ := h
    rfl
  · obtain ⟨f, l, ws, m, rfl, hF, h8, h40, ok, k⟩ := h
    refine ⟨_, PSs.nox (pss_one (ps_ret (pe_ix ix_tup (pe_gd g_run hr (pa_cons (pv 0) (pa_cons (pv 1) pa_nil))) pe_int (fun _ _ => rfl)))), ?_⟩
    refine ⟨_, rfl, _, rfl, f, l, ws, m, rfl, hF, h8, h40, ok, fun p a b e g H1 s1 R => ?_⟩
    exact ⟨p, _, _, .ref e, rfl, rfl, SqT.of R.tup, rfl, k e H1 s1 R.ne R.er⟩

theorem sc_over : FnScope ["one", "other"] ["one", "other"] (defScope s_over) := ⟨rfl, rfl, rfl, by decide +kernel, rfl, by decide +kernel, by decide +kernel⟩
theorem ok_over (D : Df K mg "over" s_over) (B : Bt mg) (g_fraction : Gd CX0 P w K mg base 2 "fraction" ["top", "bottom"] (spFraction K)) : Gd CX0 P w K mg base 3 "over" ["one", "other"] (spOver K) := by
  refine gd_of D sc_over (fun _ _ _ _ _ _ us hl => match us, hl with | [_, _], _ => rfl) (fun vs H Q E h => ?_) (fun f cdv A outer s H vs Q E hr h => ?_)
  · obtain ⟨u, v, p, q, rfl, _⟩ := h
    rfl
  · obtain ⟨u, v, p, q, rfl, hu, hv, ⟨p1, p2⟩, ⟨q1, q2⟩, hq, k⟩ := h
    refine ⟨_, PSs.nox (pss_one (ps_ret (pe_gd g_fraction hr (pa_cons (pe_op op_mulW (pe_num 0) (pe_den 1)) (pa_cons (pe_op op_mulW (pe_den 0) (pe_num 1)) pa_nil))))), ?_⟩
    refine ⟨_, p, rfl, hu, _, q, rfl, hv, _, _, rfl, rfl, cm p1 (by rw [natAbs_den]; exact q2), ?_⟩
    refine ⟨_, p, rfl, hu, _, q, rfl, hv, _, _, rfl, rfl, cm (by rw [natAbs_den]; exact p2) q1, ?_⟩
    obtain ⟨b1, b2⟩ := den_num_facts p2 q1 hq
    refine ⟨_, _, rfl, b1, b2, fun r H' s hr => k r H' s ?_⟩
    rw [over_mk] at hr
    exact hr

theorem sc_next_part : FnScope ["walls", "record", "at", "known", "through", "wall", "part"] ["walls", "record"] (defScope s_next_part) := ⟨rfl, rfl, rfl, by decide +kernel, rfl, by decide +kernel, by decide +kernel⟩
theorem ok_next_part (D : Df K mg "next_part" s_next_part) (B : Bt mg) (g_heard : Gd CX0 P w K mg base 6 "heard" ["field", "moment"] (spHeard K)) (g_times : Gd CX0 P w K mg base 3 "times" ["one", "other"] (spOp2 K (· * ·))) (g_minus : Gd CX0 P w K mg base 3 "minus" ["one", "other"] (spOp2 K (· - ·))) (g_over : Gd CX0 P w K mg base 3 "over" ["one", "other"] (spOver K)) (hN : KonstQ K mg "NOUGHT" 0) (hO : KonstQ K mg "ONE" 1) (TF : FTx K mg) (gI : InitOk P w K mg base) : Gd CX0 P w K mg base 7 "next_part" ["walls", "record"] (spNext K) := by
  obtain ⟨aN, mN, tN⟩ := hN
  obtain ⟨aO, mO, tO⟩ := hO
  obtain ⟨fI, fdI, FI, MI, bI⟩ := gI
  refine gd_of D sc_next_part (fun _ _ _ _ _ _ us hl => match us, hl with | [_, _], _ => rfl) (fun vs H Q E h => ?_) (fun f cdv A outer s H vs Q E hr h => ?_)
  · obtain ⟨lw, lr, ws, rs, rfl, _⟩ := h
    rfl
  · obtain ⟨lw, lr, ws, rs, rfl, hw, hrs, hlt, h16, hin, hsm, ok, k1, k0⟩ := h
    refine ⟨_, PSs.nox (pss_cons (ps_set (i := 2) sc_next_part.nd rfl (Or.inl rfl) (pe_op op_add (pe_op op_mul pe_int (pe_callB call_len_seq (by rfl) B.len (by decide +kernel) (pa_cons (pv 0) pa_nil))) pe_int))
      (pss_cons (ps_set (i := 3) sc_next_part.nd rfl (Or.inl rfl) (pe_glob (v := .ref aN) rfl mN rfl))
      (pss_cons (ps_set (i := 4) sc_next_part.nd rfl (Or.inl rfl) (pe_glob (v := .ref aO) rfl mO rfl))
      (C8.pss_cut (ps_if (pt_cmpR (op_neD hr.units) (pv 0) (pe_lst pa_nil) (nomark _)) (pss_one (ps_set (i := 3) sc_next_part.nd rfl (Or.inl rfl) (pe_ix ix_list (pe_gd g_heard hr (pa_cons (pe_make MI FI (hr.mono (by decide)) rfl TF.gF bI .nil pass0 (pa_cons (pv 0) pa_nil)) (pa_cons (pe_op op_add (pv 2) pe_int) pa_nil))) (pv 2) (fun _ _ => rfl)))) pss_nil)
      (pss_cons (ps_for PassesOwn.never rfl (pi_list (pv 0)) (pg_name (i := 5) sc_next_part.nd rfl (Or.inl rfl)) (pss_one (ps_set (i := 4) sc_next_part.nd rfl (Or.inl rfl) (pe_gd g_times hr (pa_cons (pv 4) (pa_cons (pe_gd g_times hr (pa_cons (pe_gd g_minus hr (pa_cons (pe_glob (v := .ref aO) rfl mO rfl) (pa_cons (pv 5) pa_nil))) (pa_cons (pe_gd g_minus hr (pa_cons (pe_glob (v := .ref aO) rfl mO rfl) (pa_cons (pv 5) pa_nil))) pa_nil))) pa_nil))))))
      (pss_cons (ps_if (pt_cmpR (op_eqD hr.units) (pv 4) (pe_glob (v := .ref aN) rfl mN rfl) (nomark _)) (pss_one (ps_ret (pe_glob (v := .ref aN) rfl mN rfl))) pss_nil)
      (pss_cons (ps_set (i := 6) sc_next_part.nd rfl (Or.inl rfl) (pe_gd g_over hr (pa_cons (pe_gd g_minus hr (pa_cons (pe_ix ix_list (pv 1) (pv 2) (fun _ _ => rfl)) (pa_cons (pv 3) pa_nil))) (pa_cons (pv 4) pa_nil))))
      (pss_cons (ps_if (pt_not (pt_chain op_le op_le pe_int (pe_num 6) (pe_den 6))) (pss_one (ps_ret pe_non)) pss_nil)
      (pss_one (ps_ret (pv 6))))))))))), ?_⟩
    obtain ⟨xs, ex, rx⟩ := id hw
    refine ⟨_, rfl, lw, xs, rfl, .inl (SqL.of ex), _, _, rfl, rfl, .inl (by decide), _, _, rfl, rfl, ?_⟩
    have n8 : ws.length ≤ 7 := by omega
    refine ⟨fun σ' H' => ∃ kv : V, σ' = [some (.ref lw), some (.ref lr), some (.int (2 * (ws.length : Int) + 1)), some kv, some (.ref aO), none, none] ∧ Same H H' ∧ RatAt K H' kv (knownOf ws), ?_, ?_⟩
    · rw [rx.1]
      refine ⟨_, rfl, Nat.zero_le _, fun te hte => ?_⟩
      have se := same_new (u := .lst []) hte
      have ree : RL K (upd H te (.lst [])) te [] := RL.new hte Rats.nil
      refine ⟨_, _, (hw.same se).dp, ree.dp, sh_rats _, sh_rats _, _, rfl, ?_⟩
      rw [eqv_rats]
      refine ifB (fun hne => ?_) (fun hne => ?_)
      · have ne : ws ≠ [] := by simpa using hne
        have pos : 0 < ws.length := List.length_pos_iff.mpr ne
        refine ⟨_, rfl, nI (make_field (hw.same se) pos (by omega) (fun q hq => unit_in (hin q hq)) fun x px H2 nx npx s2 F2 => ?_)⟩
        refine ⟨_, rfl, _, _, rfl, rfl, x, px, ws, 2 * ws.length + 2, congrArg (fun z => [V.ref x, V.int z]) (show (2 * (ws.length : Int) + 1) + 1 = ((2 * ws.length + 2 : Nat) : Int) by omega), F2, by omega, by omega, ok.run, fun e H3 s3 ne3 re3 => ?_⟩
        refine ⟨_, rfl, ixr (k := 2 * ws.length + 1) re3 (ears_get _ _ (by omega)) (by omega) fun v hv => ?_⟩
        exact ⟨v, rfl, (se.trans s2).trans s3, hv⟩
      · have e0 : ws = [] := by simpa using hne
        refine ⟨_, rfl, se, ?_⟩
        have ez : knownOf ws = 0 := by
          rw [e0]
          exact goL_end 0 _ _
        rw [ez]
        exact tN _
    rintro σ' H1 ⟨kv, rfl, s1, rk⟩
    have hw1 := hw.same s1
    obtain ⟨ys, ey, ry⟩ := id hw1
    have sm1 : Sm 1 := bd_one.sm (by omega)
    refine ⟨_, rfl, lw, rfl, ⟨ys, SqL.of ey⟩, for_list (K := K) (a := lw) (xs := ys) (fun i σ H' => ∃ (tv : V) (wv : Option V), σ = [some (.ref lw), some (.ref lr), some (.int (2 * (ws.length : Int) + 1)), some kv, some tv, wv, none] ∧ Same H1 H' ∧ RatAt K H' tv (thru (at0 ws) i * thru (at0 ws) i))
      ⟨_, none, rfl, Same.refl _, ?_⟩ (fun i σ H' _ ⟨_, _, _, s8, _⟩ => SqL.of (s8 _ _ ey)) ?_ ?_⟩
    · have e : thru (at0 ws) 0 * thru (at0 ws) 0 = 1 := by
        show (1 : Rat) * 1 = 1
        grind
      rw [e]
      exact tO _
    · rintro i v σ H2 hi ⟨tv, wv, rfl, s2, rt⟩
      have hil : i < ws.length := by rw [← ry.1]; exact (List.getElem?_eq_some_iff.mp hi).1
      have rv : RatAt K H2 v (at0 ws i) := (ry.2 i v _ hi (at0_get hil)).same s2
      obtain ⟨w1, w2, w3⟩ := ok.w1 _ (List.mem_of_getElem? (at0_get hil))
      refine ⟨_, rfl, _, rfl, _, _, _, _, rfl, tO _, rv, sm1, w1, fun r1 H3 s3 hr1 => ?_⟩
      refine ⟨_, rfl, _, _, _, _, rfl, tO _, rv.same s3, sm1, w1, fun r2 H4 s4 hr2 => ?_⟩
      refine ⟨_, _, _, _, rfl, hr1.same s4, hr2, w2, w2, fun r3 H5 s5 hr3 => ?_⟩
      refine ⟨_, _, _, _, rfl, ((rt.same s3).same s4).same s5, hr3, ok.th i (Nat.le_of_lt hil), w3, fun r4 H6 s6 hr4 => ?_⟩
      refine ⟨_, _, rfl, (((s2.trans s3).trans s4).trans s5).trans s6, ?_⟩
      have e : thru (at0 ws) (i + 1) * thru (at0 ws) (i + 1) = thru (at0 ws) i * thru (at0 ws) i * ((1 - at0 ws i) * (1 - at0 ws i)) := by
        show thru (at0 ws) i * (1 - at0 ws i) * (thru (at0 ws) i * (1 - at0 ws i)) = _
        grind
      rw [e]
      exact hr4
    · rintro σ H2 ⟨tv, wv, rfl, s2, rt⟩
      rw [ry.1] at rt
      have rt : RatAt K H2 tv (thruOf ws) := rt
      refine ⟨_, rfl, cI ⟨_, _, rt.dp, (tN _).dp, sh_rat _, sh_rat _, _, rfl, ?_⟩⟩
      rw [eqv_rat]
      have s02 := s1.trans s2
      refine ifB (fun h0 => ?_) (fun h0 => ?_)
      · have z : thruOf ws = 0 := by simpa using h0
        refine k1 0 ?_ _ _ s02 (tN _)
        unfold nextP
        rw [if_pos z]
      · have nz : thruOf ws ≠ 0 := by simpa using h0
        have en : nextP ws (at0 rs (2 * ws.length + 1)) = if In01 (partOf ws (at0 rs (2 * ws.length + 1))) then some (partOf ws (at0 rs (2 * ws.length + 1))) else none := by
          unfold nextP
          rw [if_neg nz]
        refine ⟨_, rfl, _, rfl, ixr (k := 2 * ws.length + 1) (hrs.same s02) (at0_get hlt) (by omega) fun v hv => ?_⟩
        refine ⟨_, rfl, _, _, _, _, rfl, hv, rk.same s2, hsm _ (List.mem_of_getElem? (at0_get hlt)), ok.kn, fun r1 H3 s3 hr1 => ?_⟩
        refine ⟨_, rfl, _, _, _, _, rfl, hr1, rt.same s3, ok.df, ok.th _ (Nat.le_refl _), nz, fun r2 H4 s4 hr2 => ?_⟩
        have rp : RatAt K H4 (.ref r2) (partOf ws (at0 rs (2 * ws.length + 1))) := hr2
        have s04 := (s02.trans s3).trans s4
        rw [en] at k1 k0
        generalize partOf ws (at0 rs (2 * ws.length + 1)) = p at rp k1 k0
        have out : ¬ (0 ≤ p.num ∧ p.num ≤ (p.den : Int)) → Q .non H4 := fun hno => k0 (if_neg fun z => hno (unit_in z)) H4 s04
        by_cases c1 : 0 ≤ p.num
        · refine ⟨_, _, rfl, rp, _, _, rfl, rfl, true, congrArg V.bl (decide_eq_true c1), ifT rfl ?_⟩
          by_cases c2 : p.num ≤ (p.den : Int)
          · refine ⟨_, _, rfl, rp, _, _, rfl, rfl, true, congrArg V.bl (decide_eq_true c2), ifF rfl ?_⟩
            exact ⟨_, rfl, k1 p (if_pos (in_unit ⟨c1, c2⟩)) _ _ s04 rp⟩
          · exact ⟨_, _, rfl, rp, _, _, rfl, rfl, false, congrArg V.bl (decide_eq_false c2), ifT rfl (out fun z => c2 z.2)⟩
        · exact ⟨_, _, rfl, rp, _, _, rfl, rfl, false, congrArg V.bl (decide_eq_false c1), ifF rfl ⟨false, rfl, ifT rfl (out fun z => c1 z.1)⟩⟩

theorem sc_told_by : FnScope ["record", "strength", "walls", "part"] ["record"] (defScope s_told_by) := ⟨rfl, rfl, rfl, by decide +kernel, rfl, by decide +kernel, by decide +kernel⟩
theorem ok_told_by_X (D : Df K mg "told_by" s_told_by) (B : Bt mg) (g_next_part : Gd CX0 P w K mg base 7 "next_part" ["walls", "record"] (spNext K)) (g_heard : Gd CX0 P w K mg base 6 "heard" ["field", "moment"] (spHeard K)) (TF : FTx K mg) (gI : InitOk P w K mg base) (eR : ErrX K mg "NoRecord") : Gd (CXN P w) P w K mg base 8 "told_by" ["record"] (spToldX K) := by
  obtain ⟨fI, fdI, FI, MI, bI⟩ := gI
  refine gd_of D sc_told_by (fun _ _ _ _ _ _ us hl => match us, hl with | [_], _ => rfl) (fun vs H Q E h => ?_) (fun f cdv A outer s H vs Q E hr h => ?_)
  · obtain ⟨lr, rs, rfl, _⟩ := h
    rfl
  · obtain ⟨lr, rs, rfl, hrs, hn, kE, kQ⟩ := h
    refine ⟨_, (pss_cons (ps_if (PW.pt (pw_or (pt_cmpR op_ne (pe_op op_mod (pe_callB call_len_seq (by rfl) B.len (by decide +kernel) (pa_cons (pv 0) pa_nil)) pe_int) pe_int (nomark _)) (pw_or1 (pt_not (pt_chain op_le op_le pe_int (pe_callB call_len_seq (by rfl) B.len (by decide +kernel) (pa_cons (pv 0) pa_nil)) pe_int))))) (pss_one (L2N.ps_raise rfl (L2N.takes_of rfl rfl rfl rfl) (L2N.pmk_own PySem.F.excBase_ValueError eR.xc eR.g eR.k (raises_own eR.b eR.t) rfl))) pss_nil)
      (pss_cons (ps_for PassesOwn.leaving rfl (pi_list (pv 0)) (pg_name (i := 1) sc_told_by.nd rfl (Or.inl rfl)) (pss_one (ps_if (pt_cmpR op_lt (pe_num 1) pe_int (nomark _)) (pss_one (L2N.ps_raise rfl (L2N.takes_of rfl rfl rfl rfl) (L2N.pmk_own PySem.F.excBase_ValueError eR.xc eR.g eR.k (raises_own eR.b eR.t) rfl))) pss_nil)))
      (pss_cons (ps_set (i := 2) sc_told_by.nd rfl (Or.inl rfl) (pe_lst pa_nil))
      (pss_cons (ps_while PassesOwn.leaving (pt_cmpR op_lt (pe_op op_mul pe_int (pe_callB call_len_seq (by rfl) B.len (by decide +kernel) (pa_cons (pv 2) pa_nil))) (pe_callB call_len_seq (by rfl) B.len (by decide +kernel) (pa_cons (pv 0) pa_nil)) (nomark _)) (pss_cons (ps_set (i := 3) sc_told_by.nd rfl (Or.inl rfl) (pe_gd g_next_part hr (pa_cons (pv 2) (pa_cons (pv 0) pa_nil)))) (pss_cons (ps_if (pt_cmpR op_isN (pv 3) pe_non (nomark _)) (pss_one (ps_ret pe_non)) pss_nil) (pss_one (ps_expr (pe_bm PySem.F.plainAttrs_list PySem.F.slot_list_append PySem.F.type_list_append mt_append (pv 2) (pa_cons (pv 3) pa_nil)))))))
      (pss_cons (ps_if (pt_cmpR (op_neD hr.units) (pe_gd g_heard hr (pa_cons (pe_make MI FI (hr.mono (by decide)) rfl TF.gF bI .nil pass0 (pa_cons (pv 2) pa_nil)) (pa_cons (pe_callB call_len_seq (by rfl) B.len (by decide +kernel) (pa_cons (pv 0) pa_nil)) pa_nil))) (pe_callTy call_list_of (by rfl) B.list (by decide +kernel) (pa_cons (pv 0) pa_nil)) (nomark _)) (pss_one (ps_ret pe_non)) pss_nil)
      (pss_one (ps_ret (pv 2)))))))), ?_⟩
    obtain ⟨xs, ex, rx⟩ := id hrs
    have exl := rx.1
    -- as many as it must
    refine ⟨_, rfl, lr, xs, rfl, .inl (SqL.of ex), _, _, rfl, rfl, (by show (0 : Int) < 2; decide), rfl, _, rfl, ?_⟩
    by_cases he : rs.length % 2 = 1
    · refine ifT ?_ (kE (.inl he))
      rw [rx.1, dec_int]
      have e2 : (rs.length : Int) % 2 = 1 := by omega
      rw [e2]
      rfl
    refine ifF ?_ ?_
    · rw [rx.1, dec_int]
      have e2 : (rs.length : Int) % 2 = 0 := by omega
      rw [e2]
      rfl
    refine ⟨_, rfl, lr, xs, rfl, .inl (SqL.of ex), ?_⟩
    by_cases h2 : 2 ≤ rs.length
    rotate_left
    · exact ⟨_, _, rfl, rfl, false, congrArg V.bl (decide_eq_false (by rw [rx.1]; omega)), ifF rfl ⟨false, rfl, ifT rfl (kE (.inr (.inl fun z => h2 z.1)))⟩⟩
    by_cases h16 : rs.length ≤ 16
    rotate_left
    · exact ⟨_, _, rfl, rfl, true, congrArg V.bl (decide_eq_true (by rw [rx.1]; omega)), ifT rfl ⟨_, _, rfl, rfl, false, congrArg V.bl (decide_eq_false (by rw [rx.1]; omega)), ifT rfl (kE (.inr (.inl fun z => h16 z.2)))⟩⟩
    refine ⟨_, _, rfl, rfl, true, congrArg V.bl (decide_eq_true (by rw [rx.1]; omega)), ifT rfl ⟨_, _, rfl, rfl, true, congrArg V.bl (decide_eq_true (by rw [rx.1]; omega)), ifF rfl ?_⟩⟩
    -- none below nought
    refine ⟨_, rfl, lr, rfl, ⟨xs, SqL.of ex⟩, for_list (K := K) (a := lr) (xs := xs) (fun i σ H' => H' = H ∧ (∀ q ∈ rs.take i, 0 ≤ q.num) ∧ ∃ sv : Option V, σ = [some (.ref lr), sv, none, none]) ⟨rfl, fun q hq => (nomatch hq), none, rfl⟩ (fun i σ H' _ ⟨e, _⟩ => by rw [e]; exact SqL.of ex) ?_ ?_⟩
    · rintro i v σ H' hi ⟨rfl, hg, sv, rfl⟩
      have hil : i < rs.length := by rw [← rx.1]; exact (List.getElem?_eq_some_iff.mp hi).1
      have e1 : rs[i]? = some rs[i] := List.getElem?_eq_getElem hil
      have rv := rx.2 i v rs[i] hi e1
      by_cases p0 : 0 ≤ rs[i].num
      · refine ⟨_, _, rfl, rv, _, _, rfl, rfl, _, rfl, ifF (decide_eq_false (Int.not_lt.mpr p0)) ⟨rfl, fun q hq => ?_, _, rfl⟩⟩
        rw [List.take_succ, e1] at hq
        rcases List.mem_append.mp hq with hq | hq
        · exact hg q hq
        · have e2 : q = rs[i] := by simpa using hq
          rw [e2]
          exact p0
      · exact ⟨_, _, rfl, rv, _, _, rfl, rfl, _, rfl, ifT (decide_eq_true (by omega)) (kE (.inr (.inr ⟨_, List.getElem_mem hil, by omega⟩)))⟩
    rintro σ H' ⟨rfl, hg, sv, rfl⟩
    rw [rx.1, List.take_length] at hg
    obtain ⟨ok, kA⟩ := kQ fun z => by
      rcases z with z | z | ⟨q, hq, z⟩
      · exact he z
      · exact z ⟨h2, h16⟩
      · have := hg q hq
        omega
    have k1 : ∀ ws, told rs = some ws → ∀ m H2, Same H' H2 → H' m = none → RL K H2 m ws → Q (.ref m) H2 := fun _ _ m H2 s _ _ => kA _ H2 s
    have k0 : told rs = none → ∀ H2, Same H' H2 → Q .non H2 := fun _ H2 s => kA _ H2 s
    -- wall by wall
    refine ⟨Nat.zero_le _, fun lw hlw => ?_⟩
    have sw := same_new (u := .lst []) hlw
    refine ⟨fun mm σ H2 => ∃ (ws : List Rat) (pv : Option V), σ = [some (.ref lr), sv, some (.ref lw), pv] ∧ Same H' H2 ∧ RL K H2 lw ws ∧ Reach rs ws ∧ told rs = toldGo rs (rs.length / 2 - ws.length) ws ∧ mm + ws.length = rs.length, ⟨rs.length, [], none, rfl, sw, RL.new hlw Rats.nil, .nil, rfl, rfl⟩, ?_⟩
    rintro mm σ H2 ⟨ws, pv', rfl, s2, rw2, rch, et, em⟩
    have hll := rch.len
    obtain ⟨ys, ey, ry⟩ := id rw2
    have ex2 := s2 _ _ ex
    refine ⟨_, rfl, lw, ys, rfl, .inl (SqL.of ey), _, _, rfl, rfl, .inl (by decide), _, rfl, lr, xs, rfl, .inl (SqL.of ex2), _, _, rfl, rfl, _, rfl, ?_⟩
    rw [ry.1, rx.1]
    refine ifB (fun hc => ?_) (fun hc => ?_)
    · have hc := of_decide_eq_true hc
      have hl : 2 * ws.length + 1 < rs.length := by omega
      refine ⟨fun σ H2 => ∃ (us : List Rat) (pv : Option V), σ = [some (.ref lr), sv, some (.ref lw), pv] ∧ Same H' H2 ∧ RL K H2 lw us ∧ Reach rs us ∧ told rs = toldGo rs (rs.length / 2 - us.length) us ∧ us.length = ws.length + 1, ?_, ?_⟩
      · rintro σ' H3 ⟨us, pv2, e, s3, r3, rc3, et3, el3⟩
        exact ⟨mm - 1, by omega, us, pv2, e, s3, r3, rc3, et3, by omega⟩
      · have ed : rs.length / 2 - ws.length = (rs.length / 2 - (ws.length + 1)) + 1 := by omega
        rw [ed] at et
        refine ⟨_, rfl, _, rfl, lw, lr, ws, rs, rfl, rw2, hrs.same s2, hl, h16, rch.all_in, ok.sm, ok.nx ws rch hl, fun q eq v H3 s3 rv => ?_, fun eq H3 s3 => ?_⟩
        · obtain ⟨va, ev, ta⟩ := id rv
          have rw3 := rw2.same s3
          refine ⟨_, rfl, rfl, _, rfl, ?_⟩
          rw [ev]
          refine ifF (by simp) ?_
          refine ⟨_, rfl, ty_list rw3, _, rfl, nI (ixa (q := q) rw3 (by omega) (ev ▸ rv) fun H4 k4 o4 r4 => ?_)⟩
          refine ⟨_, _, rfl, same_but (s2.trans s3) hlw o4, r4, rch.step hl eq, ?_, by rw [List.length_append]; rfl⟩
          rw [List.length_append, List.length_singleton, et]
          exact toldGo_some eq
        · refine ⟨_, rfl, rfl, _, rfl, ifT (decide_eq_true rfl) ?_⟩
          refine k0 ?_ _ (s2.trans s3)
          rw [et]
          exact toldGo_none eq
    · have hc := of_decide_eq_false hc
      have hl : 2 * ws.length = rs.length := by omega
      have ez : rs.length / 2 - ws.length = 0 := by omega
      rw [ez, toldGo_end] at et
      have hrs2 := hrs.same s2
      refine ⟨_, rfl, nI (make_field rw2 (by omega) (by omega) (fun q hq => unit_in (rch.all_in q hq)) fun x px H3 nx npx s3 F3 => ?_)⟩
      have ex3 := s3 _ _ ex2
      refine ⟨_, rfl, lr, xs, rfl, .inl (SqL.of ex3), x, px, ws, rs.length, congrArg (fun z => [V.ref x, V.int (z : Nat)]) rx.1, F3, by omega, by omega, ok.rn ws rch hl, fun e H4 s4 ne re => ?_⟩
      have ex4 := s4 _ _ ex3
      refine ⟨_, rfl, lr, xs, rfl, .inl (SqL.of ex4), fun lc hlc => ?_⟩
      have sc := same_new (u := .lst xs) hlc
      have rc : RL K (upd H4 lc (.lst xs)) lc rs := RL.new hlc (rx.kt (kt_of ((s2.trans s3).trans s4)))
      refine ⟨_, _, (re.same sc).dp, rc.dp, sh_rats _, sh_rats _, _, rfl, ?_⟩
      rw [eqv_rats]
      have s0 := ((s2.trans s3).trans s4).trans sc
      refine ifB (fun hne => ?_) (fun hne => ?_)
      · have ne2 : ¬ ears ws.length (at0 ws) rs.length = rs := by simpa using hne
        rw [if_neg ne2] at et
        exact k0 et _ s0
      · have e2 : ears ws.length (at0 ws) rs.length = rs := by simpa using hne
        rw [if_pos e2] at et
        exact ⟨_, rfl, k1 ws et lw _ s0 hlw (((rw2.same s3).same s4).same sc)⟩

theorem sc_law : FnScope ["script", "record", "spot", "bad", "part", "handed", "kinds", "due", "e", "k"] ["script"] (defScope s_law) := ⟨rfl, rfl, rfl, by decide +kernel, rfl, by decide +kernel, by decide +kernel⟩
theorem ok_law (B : Bt mg) (g_law_side : Gd CX0 P w K mg base 2 "_law_side" ["cell"] (spSide K)) (g_law_cell_at : Gd CX0 P w K mg base 1 "_law_cell_at" ["script", "k"] (spCellAt K)) (g_law_low : Gd CX0 P w K mg base 1 "_law_low" ["top", "bottom"] (spLow K)) (g_law_kind : GdKind P w K mg base) (g_law_one : Gd CX0 P w K mg base 1 "_law_one" ["k"] (spOneOf)) (g_told_by_X : Gd (CXN P w) P w K mg base 8 "told_by" ["record"] (spToldX K)) (gE : mg "EchoError" = some (.ref (He.ga K "EchoError"))) (eR : ErrX K mg "NoRecord") (xR : PySem.W.exmOne K (.ref (He.ga K "NoRecord")) (.ref (He.ga K "EchoError")) = some true) (kR : KindAt K (He.ga K "NoRecord") 2) : Gf CX0 P w K mg base 9 "law" s_law ["script"] (spLaw K) := by
  refine gf_of sc_law (fun vs H Q E h => ?_) (fun f cdv A outer s H vs Q E hr h => ?_)
  · obtain ⟨a, ns, rfl, _⟩ := h
    rfl
  · obtain ⟨a, ns, rfl, hS, hn, k⟩ := h
    refine ⟨_, PSs.nox (pss_cons (ps_setLc (i := 1) (own := [("k", 9)]) (g := (gName 9)) (tt := tYes) rfl sc_law.nd rfl rfl (sw_true rfl rfl rfl (by decide +kernel)) (pi_range1 (by rfl) B.range (pa_cons (pe_op op_mod (pe_gd g_law_cell_at hr (pa_cons (pv 0) (pa_cons pe_int pa_nil))) pe_int) pa_nil)) (blkOk_by (own := [("k", 9)]) (N := ["script", "record", "spot", "bad", "part", "handed", "kinds", "due", "e", "k"]) (sc := defScope s_law) (by decide +kernel)) (fun _ _ _ _ _ => (pg_name (i := 9) sc_law.nd rfl (Or.inl rfl))) (fun _ _ _ _ _ => pts_nil) (fun _ _ _ _ _ => (pe_gd g_law_side hr (pa_cons (pe_gd g_law_cell_at hr (pa_cons (pv 0) (pa_cons (pe_op op_add pe_int (pv 9)) pa_nil))) pa_nil))))
      (C8.pss_cut (ps_if (PW.pt (pw_and (pt_cmpR (op_neD hr.units) (pv 1) (pe_lst pa_nil) (nomark _)) (pw_and1 (pt_cmpR op_eq (pe_op op_mod (pe_gd g_law_cell_at hr (pa_cons (pv 0) (pa_cons pe_int pa_nil))) pe_int) pe_int (nomark _))))) (pss_cons (ps_set (i := 2) sc_law.nd rfl (Or.inl rfl) (pe_op op_mod (pe_op op_fdiv (pe_gd g_law_cell_at hr (pa_cons (pv 0) (pa_cons pe_int pa_nil))) pe_int) (pe_callB call_len_seq (by rfl) B.len (by decide +kernel) (pa_cons (pv 1) pa_nil)))) (pss_one (ps_asg (pe_gd g_law_low hr (pa_cons (pe_op op_sub (pe_un un_neg pe_int) (pe_op op_mod (pe_gd g_law_cell_at hr (pa_cons (pv 0) (pa_cons pe_int pa_nil))) pe_int)) (pa_cons (pe_op op_add pe_int (pe_op op_mod (pe_op op_fdiv (pe_gd g_law_cell_at hr (pa_cons (pv 0) (pa_cons pe_int pa_nil))) pe_int) pe_int)) pa_nil))) (pg_sub (pv 1) (pv 2) set_list)))) pss_nil)
      (C8.pss_cut (ps_set (i := 3) sc_law.nd rfl (Or.inl rfl) (pe_or (pe_cmpR op_eq (pe_op op_mod (pe_callB call_len_seq (by rfl) B.len (by decide +kernel) (pa_cons (pv 1) pa_nil)) pe_int) pe_int (nomark _)) (pe_one (pe_not (pe_chain op_le op_le pe_int (pe_callB call_len_seq (by rfl) B.len (by decide +kernel) (pa_cons (pv 1) pa_nil)) pe_int)))))
      (C8.pss_cut (ps_for PassesOwn.never rfl (pi_list (pv 1)) (pg_name (i := 4) sc_law.nd rfl (Or.inl rfl)) (pss_one (ps_if (pt_cmpR op_lt (pe_num 4) pe_int (nomark _)) (pss_one (ps_set (i := 3) sc_law.nd rfl (Or.inl rfl) pe_bl)) pss_nil)))
      (pss_cons (ps_set (i := 5) sc_law.nd rfl (Or.inl rfl) (pe_callTy call_list_of (by rfl) B.list (by decide +kernel) (pa_cons (pv 1) pa_nil)))
      (pss_cons (ps_set (i := 6) sc_law.nd rfl (Or.inl rfl) (pe_lst pa_nil))
      (C8.pss_cut (L2N.ps_try_as (i := 8) rfl rfl sc_law.nd rfl rfl ⟨rfl, by decide, .inl gE⟩ takes_noneN (fun W pn xe tk _ => (pss_one (ps_expr (pe_gdS g_told_by_X hr tk (pa_cons (pv 5) pa_nil))))) (fun a oe cls d pn hz hf => (pss_one (ps_set (i := 6) sc_law.nd rfl (Or.inl rfl) (pe_kind g_law_kind hr hz hf (pa_cons (pv 8) pa_nil))))))
      (pss_cons (ps_set (i := 7) sc_law.nd rfl (Or.inl rfl) (pe_lst pa_nil))
      (pss_cons (ps_if (pt_val (pv 3)) (pss_one (ps_set (i := 7) sc_law.nd rfl (Or.inl rfl) (pe_gd g_law_one hr (pa_cons pe_int pa_nil)))) pss_nil)
      (pss_one (ps_ret (pe_and (pe_cmpR (op_eqD hr.units) (pv 6) (pv 7) (nomark _)) (pe_one (pe_cmpR (op_eqD hr.units) (pv 5) (pv 1) (nomark _))))))))))))))), ?_⟩
    -- record
    have c0 : 0 ≤ cellAt ns 0 % 20 := Int.emod_nonneg _ (by decide)
    have c1 : cellAt ns 0 % 20 < 20 := Int.emod_lt_of_pos _ (by decide)
    refine ⟨_, rfl, a, ns, 0, rfl, hS.1, _, _, rfl, rfl, (by show (0 : Int) < 20; decide), _, rfl, by omega, by omega, fun l hl => ?_⟩
    refine lc_range (lo := 0) (n := (cellAt ns 0 % 20).toNat) (fun i H' => Same H H' ∧ RL K H' l ((List.range i).map fun k => sideOf (cellAt ns (3 + k)))) ⟨same_new hl, RL.new hl Rats.nil⟩ ?_ ?_
    · rintro i H1 hi ⟨s1, r1⟩
      refine ⟨rfl, yesQ (ifT rfl ?_)⟩
      refine ⟨_, rfl, _, rfl, _, _, rfl, rfl, a, ns, 3 + i, ?_, s1.seq hS.1, _, rfl, fun r H2 s2 hr => ?_⟩
      · show [V.ref a, V.int (3 + (0 + (i : Int)))] = _
        rw [show (3 : Int) + (0 + (i : Int)) = ((3 + i : Nat) : Int) by omega]
      · obtain ⟨acc, ea, ra⟩ := r1.same s2
        refine ⟨acc, ea, small1000 (by rw [ra.1, List.length_map, List.length_range]; omega), same_but (s1.trans s2) hl (fun b hb => upd_ne hb), ?_⟩
        rw [List.range_succ, List.map_append]
        exact RL.upd ea (ra.push hr)
    rintro H1 ⟨s1, r1⟩
    have hlen : ((List.range (cellAt ns 0 % 20).toNat).map fun k => sideOf (cellAt ns (3 + k))).length ≤ 19 := by
      rw [List.length_map, List.length_range]
      omega
    have hcand : ∀ q ∈ ((List.range (cellAt ns 0 % 20).toNat).map fun k => sideOf (cellAt ns (3 + k))), ∃ s ∈ candI, q = toR s := fun q hq => by
      obtain ⟨t, _, rfl⟩ := List.mem_map.mp hq
      exact side_cand _
    generalize ((List.range (cellAt ns 0 % 20).toNat).map fun k => sideOf (cellAt ns (3 + k))) = ws at r1 hlen hcand
    have hS1 := s1.seq hS.1
    -- one below nought
    refine ⟨fun σ' H' => ∃ (rs : List Rat) (sv : Option V), σ' = [some (.ref a), some (.ref l), sv, none, none, none, none, none, none, none] ∧ RL K H' l rs ∧ rs.length ≤ 19 ∧ ((∀ q ∈ rs, ∃ s ∈ candI, q = toR s) ∨ ∃ q ∈ rs, q.num < 0), ?_, ?_⟩
    · refine ⟨_, rfl, Nat.zero_le _, fun te hte => ?_⟩
      have se := same_new (u := .lst []) hte
      have ree : RL K (upd H1 te (.lst [])) te [] := RL.new hte Rats.nil
      refine ⟨_, _, (r1.same se).dp, ree.dp, sh_rats _, sh_rats _, _, rfl, ?_⟩
      rw [eqv_rats]
      have r2 := r1.same se
      have hS2 := se.seq hS1
      refine ifB (fun hne => ?_) (fun hne => ?_)
      · have ne : ws ≠ [] := by simpa using hne
        have pos : 0 < ws.length := List.length_pos_iff.mpr ne
        refine ⟨_, rfl, a, ns, 1, rfl, hS2, _, _, rfl, rfl, (by show (0 : Int) < 3; decide), rfl, _, rfl, ?_⟩
        refine ifB (fun hq => ?_) (fun hq => ?_)
        · obtain ⟨xs, ex, rx⟩ := id r2
          refine ⟨_, rfl, a, ns, 1, rfl, hS2, _, _, rfl, rfl, ⟨by decide, by decide⟩, _, rfl, l, xs, rfl, .inl (SqL.of ex), _, _, rfl, rfl, (by show (0 : Int) < (xs.length : Int); rw [rx.1]; omega), ?_⟩
          have i0 : 0 ≤ cellAt ns 1 / 3 % (xs.length : Int) := Int.emod_nonneg _ (by rw [rx.1]; omega)
          have i1 : cellAt ns 1 / 3 % (xs.length : Int) < (xs.length : Int) := Int.emod_lt_of_pos _ (by rw [rx.1]; omega)
          obtain ⟨i, ei⟩ := Int.eq_ofNat_of_zero_le i0
          have d0 : 0 ≤ cellAt ns 2 / 9 % 5 := Int.emod_nonneg _ (by decide)
          have d1 : cellAt ns 2 / 9 % 5 < 5 := Int.emod_lt_of_pos _ (by decide)
          have e0 : 0 ≤ cellAt ns 2 % 9 := Int.emod_nonneg _ (by decide)
          obtain ⟨b, eb⟩ := Int.eq_ofNat_of_zero_le (show 0 ≤ 1 + cellAt ns 2 / 9 % 5 by omega)
          dsimp only
          rw [ei]
          refine ⟨_, rfl, _, rfl, a, ns, 2, rfl, hS2, _, _, rfl, rfl, (by show (0 : Int) < 9; decide), _, _, rfl, rfl, ?_⟩
          refine ⟨_, rfl, a, ns, 2, rfl, hS2, _, _, rfl, rfl, ⟨by decide, by decide⟩, _, _, rfl, rfl, (by show (0 : Int) < 5; decide), _, _, rfl, rfl, -1 - cellAt ns 2 % 9, b, congrArg (fun z => [V.int (-1 - cellAt ns 2 % 9), V.int z]) eb, by omega, Nat.lt_of_lt_of_le (show b < 2 ^ 5 by omega) (Nat.pow_le_pow_right (by decide) (by decide)), fun r H3 s3 hr => ?_⟩
          have hi : i < ws.length := by
            rw [rx.1] at i1 ei
            omega
          refine ⟨_, rfl, _, rfl, ixs (i := i) (r2.same s3) hi rfl hr fun H4 k4 o4 r4 => ?_⟩
          exact ⟨_, _, rfl, r4, by rw [List.length_set]; exact hlen, .inr ⟨_, mem_set hi, mk_neg (by omega) (by omega)⟩⟩
        · exact ⟨ws, none, rfl, r2, hlen, .inl hcand⟩
      · exact ifF rfl ⟨ws, none, rfl, r2, hlen, .inl hcand⟩
    clear r1 hlen hS1 s1 hcand
    rintro σ' H1 ⟨rs, sv, rfl, rl, hlen, hc⟩
    obtain ⟨ys, ey, ry⟩ := id rl
    -- bad
    refine ⟨fun σ' H' => ∃ b0 : Bool, σ' = [some (.ref a), some (.ref l), sv, some (.bl b0), none, none, none, none, none, none] ∧ H' = H1 ∧ (b0 = true ↔ (rs.length % 2 = 1 ∨ ¬ (2 ≤ rs.length ∧ rs.length ≤ 16))), ?_, ?_⟩
    · refine ⟨_, rfl, l, ys, rfl, .inl (SqL.of ey), _, _, rfl, rfl, (by show (0 : Int) < 2; decide), rfl, ?_⟩
      by_cases he : rs.length % 2 = 1
      · refine ⟨true, congrArg V.bl ?_, ifT rfl ⟨true, rfl, rfl, by simp [he]⟩⟩
        rw [ry.1, dec_int]
        have e2 : (rs.length : Int) % 2 = 1 := by omega
        rw [e2]
        rfl
      · refine ⟨false, congrArg V.bl ?_, ifF rfl ?_⟩
        · rw [ry.1, dec_int]
          have e2 : (rs.length : Int) % 2 = 0 := by omega
          rw [e2]
          rfl
        refine ⟨_, rfl, l, ys, rfl, .inl (SqL.of ey), ?_⟩
        rw [ry.1]
        by_cases h1 : 2 ≤ rs.length
        · refine ⟨_, _, rfl, rfl, true, congrArg V.bl (decide_eq_true (by omega)), ifT rfl ?_⟩
          by_cases h8 : rs.length ≤ 16
          · exact ⟨_, _, rfl, rfl, true, congrArg V.bl (decide_eq_true (by omega)), false, rfl, rfl, by simp [h1, h8, he]⟩
          · exact ⟨_, _, rfl, rfl, false, congrArg V.bl (decide_eq_false (by omega)), true, rfl, rfl, by simp [h8]⟩
        · exact ⟨_, _, rfl, rfl, false, congrArg V.bl (decide_eq_false (by omega)), ifF rfl ⟨false, rfl, true, rfl, rfl, by simp [h1]⟩⟩
    rintro σ' H1' ⟨b0, rfl, rfl, hb0⟩
    refine ⟨fun σ' H' => ∃ (b1 : Bool) (pv : Option V), σ' = [some (.ref a), some (.ref l), sv, some (.bl b1), pv, none, none, none, none, none] ∧ H' = H1' ∧ (b1 = true ↔ BadRec rs), ?_, ?_⟩
    · refine ⟨_, rfl, l, rfl, ⟨ys, SqL.of ey⟩, for_list (K := K) (a := l) (xs := ys) (fun i σ H' => H' = H1' ∧ ∃ (b1 : Bool) (pv : Option V), σ = [some (.ref a), some (.ref l), sv, some (.bl b1), pv, none, none, none, none, none] ∧ (b1 = true ↔ (rs.length % 2 = 1 ∨ ¬ (2 ≤ rs.length ∧ rs.length ≤ 16) ∨ ∃ q ∈ rs.take i, q.num < 0)))
        ⟨rfl, b0, none, rfl, by rw [hb0]; simp⟩ (fun i σ H' _ ⟨e, _⟩ => by rw [e]; exact SqL.of ey) ?_ ?_⟩
      · rintro i v σ H' hi ⟨rfl, w1, pv, rfl, hw1⟩
        have hil : i < rs.length := by rw [← ry.1]; exact (List.getElem?_eq_some_iff.mp hi).1
        have e1 : rs[i]? = some rs[i] := List.getElem?_eq_getElem hil
        have rv := ry.2 i v rs[i] hi e1
        have et : rs.take (i + 1) = rs.take i ++ [rs[i]] := by rw [List.take_succ, e1]; rfl
        by_cases c1 : rs[i].num < 0
        · refine ⟨_, _, rfl, rv, _, _, rfl, rfl, _, rfl, ifT (decide_eq_true c1) ⟨rfl, true, _, rfl, ?_⟩⟩
          refine ⟨fun _ => .inr (.inr ⟨_, ?_, c1⟩), fun _ => rfl⟩
          rw [et]
          exact List.mem_append_right _ List.mem_cons_self
        · refine ⟨_, _, rfl, rv, _, _, rfl, rfl, _, rfl, ifF (decide_eq_false c1) ⟨rfl, w1, _, rfl, ?_⟩⟩
          rw [hw1, et]
          constructor
          · rintro (z | z | ⟨q, hq, z⟩)
            · exact .inl z
            · exact .inr (.inl z)
            · exact .inr (.inr ⟨q, List.mem_append_left _ hq, z⟩)
          · rintro (z | z | ⟨q, hq, z⟩)
            · exact .inl z
            · exact .inr (.inl z)
            · rcases List.mem_append.mp hq with hq | hq
              · exact .inr (.inr ⟨q, hq, z⟩)
              · rw [List.mem_singleton.mp hq] at z
                exact absurd z c1
      · rintro σ H' ⟨rfl, w1, pv, rfl, hw1⟩
        rw [ry.1, List.take_length] at hw1
        exact ⟨w1, pv, rfl, rfl, hw1⟩
    rintro σ' H2 ⟨b1, pv, rfl, rfl, hb1⟩
    -- handed, kinds
    refine ⟨_, rfl, l, ys, rfl, .inl (SqL.of ey), fun lh hlh => ?_⟩
    have sh := same_new (u := .lst ys) hlh
    have rh := RL.new hlh ry
    refine ⟨Nat.zero_le _, fun l0 h0 => ?_⟩
    have s0 := same_new (u := .lst []) h0
    have rh3 := rh.same s0
    have rl3 := (rl.same sh).same s0
    have e0 : (upd (upd H2 lh (.lst ys)) l0 (.lst [])) l0 = some (.lst ((([] : List Bool)).map V.bl)) := upd_same
    generalize upd (upd H2 lh (.lst ys)) l0 (.lst []) = H3 at rh3 rl3 e0
    -- told
    refine ⟨fun σ' H' => ∃ lk : Addr, σ' = [some (.ref a), some (.ref l), sv, some (.bl b1), pv, some (.ref lh), some (.ref lk), none, none, none] ∧ RL K H' lh rs ∧ RL K H' l rs ∧ H' lk = some (.lst ((if b1 = true then kindL 2 else []).map V.bl)), ?_, ?_⟩
    · refine ⟨_, rfl, lh, rs, rfl, rh3, by omega, fun hbad => ?_, fun hgood => ?_⟩
      · refine ⟨true, xR, (fun _ x hx => ?_), (fun q => nomatch q)⟩
        refine ⟨He.ga K "NoRecord", 2, rfl, rfl, kR, _, rfl, rfl, fun l2 H4 s4 n4 e4 => ?_⟩
        refine ⟨l2, rfl, rh3.same s4, rl3.same s4, ?_⟩
        rw [if_pos (hb1.mpr hbad)]
        exact e4
      · obtain ⟨g1, g2, g3, g4⟩ := bad_not hgood
        have hc2 : ∀ q ∈ rs, ∃ s ∈ candI, q = toR s := by
          rcases hc with h | ⟨q, hq, z⟩
          · exact h
          · exact absurd z (by have := g4 q hq; omega)
        refine ⟨told_ok10 chk_all ⟨fun t ht => hc2 _ (List.mem_of_getElem? (at0_get ht))⟩ g3 (fun q hq => cand_sm (hc2 q hq)), fun v H4 s4 => ?_⟩
        refine ⟨l0, rfl, rh3.same s4, rl3.same s4, ?_⟩
        have nb : ¬ b1 = true := fun z => hgood (hb1.mp z)
        rw [if_neg nb]
        exact s4 _ _ e0
    clear rh3 rl3 e0 rh rl sh s0 hc ey ry
    rintro σ' H3 ⟨lk, rfl, rh, rl, ek⟩
    -- due
    refine ⟨Nat.zero_le _, fun ld hld => ?_⟩
    have sd := same_new (u := .lst []) hld
    have ed : (upd H3 ld (.lst [])) ld = some (.lst ((([] : List Bool)).map V.bl)) := upd_same
    refine ⟨_, rfl, _, rfl, ?_⟩
    cases b1 with
    | true =>
      refine ifT rfl ⟨2, rfl, fun l3 H4 s4 n4 e4 => ?_⟩
      have s34 := sd.trans s4
      refine ⟨_, rfl, _, rfl, dBools (kindL 2), dBools (kindL 2), bools_at (s34 _ _ ek), bools_at e4, rfl, rfl, true, rfl, ifT rfl ?_⟩
      refine ⟨_, rfl, _, rfl, _, _, (rh.same s34).dp, (rl.same s34).dp, sh_rats _, sh_rats _, ?_⟩
      rw [eqv_rats, decide_eq_true rfl]
      exact k _
    | false =>
      refine ifF rfl ?_
      refine ⟨_, rfl, _, rfl, dBools [], dBools [], bools_at (sd _ _ ek), bools_at ed, rfl, rfl, true, rfl, ifT rfl ?_⟩
      refine ⟨_, rfl, _, rfl, _, _, (rh.same sd).dp, (rl.same sd).dp, sh_rats _, sh_rats _, ?_⟩
      rw [eqv_rats, decide_eq_true rfl]
      exact k _

end
def fnL : List He.DefD := [dfD "_law_low" s_law_low, dfD "_law_side" s_law_side, dfD "_law_cell_at" s_law_cell_at, dfD "_law_kind" s_law_kind, dfD "_law_one" s_law_one, dfD "common" s_common, dfD "fraction" s_fraction, dfD "plus" s_plus, dfD "minus" s_minus, dfD "times" s_times, dfD "step" s_step, dfD "run" s_run, dfD "heard" s_heard, dfD "over" s_over, dfD "next_part" s_next_part, dfD "told_by" s_told_by, dfD "law" s_law, mtD "Field" "__init__" "Field.__init__" s_Field_init, mtD "Field" "walls" "Field.walls" s_Field_walls]
def faL : List He.Fa := btFa ++ [.glo "_law_low", .glo "_law_side", .glo "_law_cell_at", .glo "_law_kind", .glo "_law_one", .glo "common", .glo "fraction", .glo "plus", .glo "minus", .glo "times", .glo "step", .glo "run", .glo "heard", .glo "over", .glo "next_part", .glo "told_by", .glo "law", .glo "Field", .cls "Field", .noat "Field" "parts", .meth "Field" "walls", .mkr "Field", .glo "NOUGHT", .glo "ONE", .glo "NoRecord", .exc "NoRecord", .exm "NoRecord" "EchoError" true, .glo "EchoError", .glo "NoField", .glo "NoMoment", .glo "TooMany", .glo "BadText", .free "ValueError"]
def xbL (K : PySem.W.Frag) : Bool := xbK K && kindB K (He.ga K "NoRecord") 2
abbrev rowL : PySem.W.OpenRow := PySem.W.OpenLaw.row PySem.Challenge.rw_echofield_k10_no_records
abbrev hkL : PySem.W.Hook := hookX 5 faL fnL xbL
def obL (s : PySem.W.SharedT) : AlX := obsXG 5 faL fnL xbL (HandSHeadRun.getT s)
theorem obL_eq (s : PySem.W.SharedT) : obL s = hkL.obs s.abs := obsXG_eq (HandSHeadRun.getT_eq s)
def looseL : List Str := (["EchoError", "NoField", "NoMoment", "NoRecord", "TooMany", "BadText", "Field", "common", "fraction", "plus", "minus", "times", "over", "step", "run", "heard", "next_part", "told_by", "_law_cell_at", "_law_whole"] : List Str) ++ (["_law_kind", "_law_one", "_law_low", "_law_plus", "_law_times", "_law_less", "_law_parts", "_law_side", "_law_sides", "NOUGHT", "ONE"] : List Str)
theorem runL (w : World) : HandSHeadRun.RunEq rowL (PySem.W.view rowL.prog [37]) hkL obL 3000 looseL w := by
  intro os
  kernel_rfl
theorem lawL {P : Program} {w : World} {K : PySem.W.Frag} {h : Heap} {mg : Str → Option Value} (X : K.In h) (G : h.Ns mainGlobals mg) (c : SaysX faL fnL xbL K) (base : Heap) : Gf CX0 P w K mg base 9 "law" s_law ["script"] (spLaw K) := by
  have B : Bt mg := bt_of c X G
  have xb := c.x
  unfold xbL at xb
  simp only [Bool.and_eq_true] at xb
  obtain ⟨q0, q1⟩ := xb
  have xb2 := Bool.and_eq_true_iff.mp q0
  have hN : KonstQ K mg "NOUGHT" 0 := konst_of (He.glo_ok X G (c.d.fact 32 (f := .glo "NOUGHT") rfl)) xb2.1
  have hO : KonstQ K mg "ONE" 1 := konst_of (He.glo_ok X G (c.d.fact 33 (f := .glo "ONE") rfl)) xb2.2
  have eR : ErrX K mg "NoRecord" := ⟨He.glo_ok X G (c.d.fact 34 (f := .glo "NoRecord") rfl), (He.exc_ok (c.d.fact 35 (f := .exc "NoRecord") rfl)).1, (He.exc_ok (c.d.fact 35 (f := .exc "NoRecord") rfl)).2.1, (He.exc_ok (c.d.fact 35 (f := .exc "NoRecord") rfl)).2.2.1, (He.exc_ok (c.d.fact 35 (f := .exc "NoRecord") rfl)).2.2.2⟩
  have xR := He.exm_ok (c.d.fact 36 (f := .exm "NoRecord" "EchoError" true) rfl)
  have kR : KindAt K (He.ga K "NoRecord") 2 := kind_ok q1
  have gE := He.glo_ok X G (c.d.fact 37 (f := .glo "EchoError") rfl)
  have eG : ExG K mg := ⟨He.glo_ok X G (c.d.fact 38 (f := .glo "NoField") rfl), He.glo_ok X G (c.d.fact 39 (f := .glo "NoMoment") rfl), He.glo_ok X G (c.d.fact 34 (f := .glo "NoRecord") rfl), He.glo_ok X G (c.d.fact 40 (f := .glo "TooMany") rfl), He.glo_ok X G (c.d.fact 41 (f := .glo "BadText") rfl), He.free_ok X G (c.d.fact 42 (f := .free "ValueError") rfl)⟩
  have TF : FTx K mg := ftx_of c X G 27
  have gI : InitOk P w K mg base := by
    obtain ⟨fd, F⟩ := c.d.def_ 17 (d := mtD "Field" "__init__" "Field.__init__" s_Field_init) rfl
    exact ⟨_, fd, ok_Field_init F B TF, He.mkr_ok (c.d.fact 31 (f := .mkr "Field") rfl), F.bindsN fun _ _ _ _ _ _ us hl => match us, hl with | [_, _], _ => rfl⟩
  have gW : WallsOk P w K mg base := by
    obtain ⟨fd, F⟩ := c.d.def_ 18 (d := mtD "Field" "walls" "Field.walls" s_Field_walls) rfl
    exact ⟨_, fd, ok_Field_walls F B TF, He.meth_ok (c.d.fact 30 (f := .meth "Field" "walls") rfl), F.bindsN fun _ _ _ _ _ _ us hl => match us, hl with | [_], _ => rfl⟩
  have g_law_low := ok_law_low (P := P) (w := w) (base := base) (df_of c X G 0 10 (x := "_law_low") (st := s_law_low)) B
  have g_law_side := ok_law_side (P := P) (w := w) (base := base) (df_of c X G 1 11 (x := "_law_side") (st := s_law_side)) B g_law_low
  have g_law_cell_at := ok_law_cell_at (P := P) (w := w) (base := base) (df_of c X G 2 12 (x := "_law_cell_at") (st := s_law_cell_at)) B
  have g_law_kind := ok__law_kind (P := P) (w := w) (base := base) (df_of c X G 3 13 (x := "_law_kind") (st := s_law_kind)) B eG
  have g_law_one := ok_law_one (P := P) (w := w) (base := base) (df_of c X G 4 14 (x := "_law_one") (st := s_law_one)) B
  have g_common := ok_common (P := P) (w := w) (base := base) (df_of c X G 5 15 (x := "common") (st := s_common)) B
  have g_fraction := ok_fraction (P := P) (w := w) (base := base) (df_of c X G 6 16 (x := "fraction") (st := s_fraction)) B g_common
  have g_plus := ok_plus (P := P) (w := w) (base := base) (df_of c X G 7 17 (x := "plus") (st := s_plus)) B g_fraction
  have g_minus := ok_minus (P := P) (w := w) (base := base) (df_of c X G 8 18 (x := "minus") (st := s_minus)) B g_fraction
  have g_times := ok_times (P := P) (w := w) (base := base) (df_of c X G 9 19 (x := "times") (st := s_times)) B g_fraction
  have g_step := ok_step (P := P) (w := w) (base := base) (df_of c X G 10 20 (x := "step") (st := s_step)) B g_plus g_minus g_times hN
  have g_run := ok_run (P := P) (w := w) (base := base) (df_of c X G 11 21 (x := "run") (st := s_run)) B g_step hN hO TF gW
  have g_heard := ok_heard (P := P) (w := w) (base := base) (df_of c X G 12 22 (x := "heard") (st := s_heard)) B g_run
  have g_over := ok_over (P := P) (w := w) (base := base) (df_of c X G 13 23 (x := "over") (st := s_over)) B g_fraction
  have g_next_part := ok_next_part (P := P) (w := w) (base := base) (df_of c X G 14 24 (x := "next_part") (st := s_next_part)) B g_heard g_times g_minus g_over hN hO TF gI
  have g_told_by_X := ok_told_by_X (P := P) (w := w) (base := base) (df_of c X G 15 25 (x := "told_by") (st := s_told_by)) B g_next_part g_heard TF gI eR
  exact ok_law B g_law_side g_law_cell_at g_law_low g_law_kind g_law_one g_told_by_X gE eR xR kR
theorem factsL {P : Program} {w : World} {K : PySem.W.Frag} {h : Heap} {mg : Str → Option Value} {f : Addr} (X : K.In h) (G : h.Ns mainGlobals mg) (hfa : mg ("law" : Str) = some (.ref f)) (c : SaysX faL fnL xbL K) :
    ∃ fd : FuncData, (∀ (s : Shared) (v : Value), BindsTo s fd ⟨[v], []⟩ [("script", v)]) ∧ ∀ base : Heap, K.In base → base.Ns mainGlobals mg → FnOk P w K mg base CX0 9 f fd ["script"] (spLaw K) := by
  obtain ⟨fd, F⟩ := c.d.def_ 16 (d := dfD "law" s_law) rfl
  have b := FunD.bindsA (ps := ["script"]) F fun _ _ _ _ _ _ us hl => match us, hl with | [_], _ => rfl
  have e := hfa.symm.trans (He.glo_ok X G (c.d.fact 26 (f := .glo "law") rfl))
  cases e
  exact ⟨fd, fun s v => b s [v] rfl, fun base _ _ => lawL X G c base _ fd F⟩
end Ef
open PySem PySem.W PySem.Calls PyProof.Rows
set_option maxHeartbeats 0
theorem PySem.Challenge.cw_echofield_k10_no_records_holds : PySem.Challenge.rw_echofield_k10_no_records.Holds := by
  w_on; o_law
  refine HandSHeadRun.head_any (r := OpenLaw.row PySem.Challenge.rw_echofield_k10_no_records) (q := view (OpenLaw.row PySem.Challenge.rw_echofield_k10_no_records).prog [37]) (H := Ef.hkL) (ob := Ef.obL) (M := 3000) (loose := Ef.looseL) (d := HandSHeadRun.topDef (OpenLaw.row PySem.Challenge.rw_echofield_k10_no_records).prog 37) (kwd := []) Ef.obL_eq
    (by kernel_rfl) (fun s => by kernel_rfl) Ef.runL (by kernel_rfl) (by kernel_rfl) (by kernel_rfl) (by rfl) (by first | assumption | decide +kernel) (by decide +kernel) ⟨rfl, rfl, rfl, rfl, rfl, by decide +kernel⟩ ?hw ?hc
  case hw => w_witness2
  case hc =>
    refine L2.walk_ofE (l := PySem.Challenge.rw_echofield_k10_no_records) (n := 63) (k := 9) (x := "script") (CX := L2.CX0) rfl (by decide) (by kernel_rfl) ⟨rfl, by decide, by decide⟩ ?F (fun _ _ _ _ z => z)
    intro w mg fa h Y G hmg0
    obtain ⟨K, KX, c⟩ := Y
    have hmg : mg ("law" : PySem.Str) = some (.ref fa) := by
      have e : (HandSHeadRun.topDef (OpenLaw.row PySem.Challenge.rw_echofield_k10_no_records).prog 37).name = ("law" : PySem.Str) := by kernel_rfl
      rw [← e]
      exact hmg0
    obtain ⟨fd, hb, hF⟩ := Ef.factsL (P := (PySem.Challenge.rw_echofield_k10_no_records).prog) (w := w) KX G hmg c
    exact ⟨K, fd, Ef.spLaw K, KX, hb, fun H a ns hl hO hS => ⟨a, ns, rfl, Ef.scr_of hO hS, hl, fun _ => rfl⟩, hF⟩
#print axioms PySem.Challenge.cw_echofield_k10_no_records_holds
