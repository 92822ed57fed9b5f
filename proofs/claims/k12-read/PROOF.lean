import PyProof.Rows.All
import Wide.All
import OpenK.AllK
import Wide.FinOn
import HandS.Base
import HandS.Call
import HandS.List
import HandS.Comp
import HandS.Ends
import HandS.Words
import HandS.WordsList
import HandS.Iter
import HandS.Text
import HandS.Codes
import PyProof.StrBlock2
import HandS.Wide
import HandS.IsInst
import HandS.Defaults
import HandS.Head0
import HandS.Head1
import HandS.Head2
import HandS.HeadEnd
import HandS.HeadHook1
import HandS.HeadHook2
import HandS.Rev
import HandS.Deep
import HandS.Exc
import HandS.ExcOwn
import HandS.ExcCtx
import HandS.ExcIs
import HandS.WordsExc
import HandS.HotCalls
import HandS.SuiteRaise
import PySem.Challenge.RW_echofield_k12_read
set_option Elab.async false
set_option linter.all false
set_option maxRecDepth 100000
set_option maxHeartbeats 4000000

namespace Ef
/-! Fractions: what the two halves of a tuple in lowest terms are worth. -/
theorem gcd_comm_pos {t : Int} {b : Nat} : b.gcd t.natAbs = t.natAbs.gcd b := Nat.gcd_comm _ _
theorem num_mk {t : Int} {b : Nat} (hb : b ≠ 0) : (mkRat t b).num = t / ((t.natAbs.gcd b : Nat) : Int) := by
  rw [Rat.num_mkRat, if_neg hb, Nat.gcd_comm]
theorem den_mk {t : Int} {b : Nat} (hb : b ≠ 0) : (mkRat t b).den = b / (t.natAbs.gcd b) := by
  rw [Rat.den_mkRat, if_neg hb, Nat.gcd_comm]
theorem sum_mk (p q : Rat) : mkRat (p.num * q.den + q.num * p.den) (p.den * q.den) = p + q := (Rat.add_def' p q).symm
theorem dif_mk (p q : Rat) : mkRat (p.num * q.den - q.num * p.den) (p.den * q.den) = p - q := (Rat.sub_def' p q).symm
theorem mul_mk (p q : Rat) : mkRat (p.num * q.num) (p.den * q.den) = p * q := (Rat.mul_def' p q).symm
theorem over_mk (p q : Rat) : Rat.divInt (p.num * q.den) (p.den * q.num) = p / q := by
  have h := Rat.divInt_mul_divInt p.num q.den (d₁ := p.den) (d₂ := q.num)
  rw [← h, Rat.num_divInt_den, ← Rat.inv_divInt, Rat.num_divInt_den, Rat.div_def]
theorem den_pos (q : Rat) : 0 < q.den := Nat.pos_of_ne_zero q.den_nz
theorem den_posI (q : Rat) : (0 : Int) < (q.den : Int) := Int.natCast_pos.mpr (den_pos q)
/-- small: both halves below the line -/
def Sm (q : Rat) : Prop := q.num.natAbs < 2 ^ 4500 ∧ q.den < 2 ^ 4500
theorem divInt_pos {t b : Int} (h : 0 < b) : Rat.divInt t b = mkRat t b.toNat := by
  obtain ⟨n, rfl⟩ := Int.eq_ofNat_of_zero_le (Int.le_of_lt h)
  rw [Rat.divInt_ofNat]; rfl
theorem divInt_neg {t b : Int} (h : b < 0) : Rat.divInt t b = Rat.divInt (0 - t) (0 - b) := by
  rw [Int.zero_sub, Int.zero_sub, Rat.neg_divInt_neg]
theorem mk_den_le {t : Int} {b : Nat} (hb : b ≠ 0) : (mkRat t b).den ≤ b := by
  rw [den_mk hb]
  exact Nat.div_le_self _ _
theorem mk_num_le {t : Int} {b : Nat} (hb : b ≠ 0) : (mkRat t b).num.natAbs ≤ t.natAbs := by
  rw [num_mk hb]
  have h : ((t.natAbs.gcd b : Nat) : Int) ∣ t := Int.ofNat_dvd_left.mpr (Nat.gcd_dvd_left _ _)
  rw [Int.natAbs_ediv_of_dvd h, Int.natAbs_natCast]
  exact Nat.div_le_self _ _
theorem sm_mk {t : Int} {b : Nat} (hb : b ≠ 0) (h1 : t.natAbs < 2 ^ 4500) (h2 : b < 2 ^ 4500) : Sm (mkRat t b) :=
  ⟨Nat.lt_of_le_of_lt (mk_num_le hb) h1, Nat.lt_of_le_of_lt (mk_den_le hb) h2⟩
end Ef
namespace Ef
open PySem PySem.Spec PyProof.Rows L2
/-! ### fractions in the heap -/
/-- a thing that is never changed -/
def fixO : HO → Bool
  | .lst _ => false
  | .ins _ _ _ => false
  | _ => true
/-- all but lists and instances is as it was -/
def Kt (H H' : Hp) : Prop := ∀ b o, H b = some o → fixO o = true → H' b = some o
theorem Kt.refl (H : Hp) : Kt H H := fun _ _ h _ => h
theorem Kt.trans {H H1 H2 : Hp} (a : Kt H H1) (b : Kt H1 H2) : Kt H H2 := fun c o h z => b c o (a c o h z) z
theorem kt_of {H H' : Hp} (s : Same H H') : Kt H H' := fun b o h _ => s b o h
theorem Kt.set {H : Hp} {l : Addr} {xs ys : List V} (h : H l = some (.lst xs)) : Kt H (upd H l (.lst ys)) := fun b o e z => by
  have nb : b ≠ l := fun q => by
    rw [q, h] at e
    cases Option.some.inj e
    cases z
  rw [upd_ne nb]
  exact e
theorem Kt.obj {H : Hp} {p C dx : Addr} {fs : List (Str × V)} {u : HO} (h : H p = some (.ins C dx fs)) : Kt H (upd H p u) := fun b o e z => by
  have nb : b ≠ p := fun q => by
    rw [q, h] at e
    cases Option.some.inj e
    cases z
  rw [upd_ne nb]
  exact e
theorem Kt.new {H : Hp} {l : Addr} {u : HO} (h : H l = none) : Kt H (upd H l u) := fun b o e _ => by
  rw [upd_ne (ne_of_none e h)]
  exact e
theorem same_new {H : Hp} {l : Addr} {u : HO} (h : H l = none) : Same H (upd H l u) := fun b o e => by
  rw [upd_ne (ne_of_none e h)]
  exact e
theorem Kt.tup {K : PySem.W.Frag} {H H' : Hp} (k : Kt H H') {a : Addr} {xs : List V} (h : SqT K H a xs) : SqT K H' a xs := by
  rcases h with (h | ⟨o, h⟩) | h
  · exact .inl (.inl (k _ _ h rfl))
  · exact .inl (.inr ⟨o, k _ _ h rfl⟩)
  · exact .inr h
/-- at v stands the fraction q in lowest terms -/
def RatAt (K : PySem.W.Frag) (H : Hp) (v : V) (q : Rat) : Prop := ∃ a, v = .ref a ∧ SqT K H a [.int q.num, .int (q.den : Int)]
theorem RatAt.kt {K : PySem.W.Frag} {H H' : Hp} (k : Kt H H') {v : V} {q : Rat} (h : RatAt K H v q) : RatAt K H' v q := by
  obtain ⟨a, e, t⟩ := h
  exact ⟨a, e, k.tup t⟩
theorem RatAt.same {K : PySem.W.Frag} {H H' : Hp} (k : Same H H') {v : V} {q : Rat} (h : RatAt K H v q) : RatAt K H' v q := h.kt (kt_of k)
/-! ### own rules -/
section
variable {X : Cx}
/-- the top, the bottom of the fraction in slot i -/
def tNum (K : PySem.W.Frag) (i : Nat) : TE := fun σ H Q => ∃ v q, σ[i]? = some (some v) ∧ RatAt K H v q ∧ Q (.int q.num) H
def tDen (K : PySem.W.Frag) (i : Nat) : TE := fun σ H Q => ∃ v q, σ[i]? = some (some v) ∧ RatAt K H v q ∧ Q (.int (q.den : Int)) H
theorem pe_num (i : Nat) {x : Str} {p p2 pos : Pos} {j : Nat} (hN : X.N[i]? = some x := by rfl) (hv : Vis X.env.scope x := by first | exact Or.inl rfl | exact Or.inr (Or.inl rfl) | exact Or.inr (Or.inr rfl)) (hd : (x == ("__debug__" : Str)) = false := by decide)
    (hcd : (x == ("__classdict__" : Str)) = false := by decide) : PE X (.Subscript (.Name x p) (.Constant (.int 0) j p2) pos) (tNum X.K i) := by
  refine ⟨fun pins s σ H Q I h => (pe_ix ix_tup (pe_var hN hv hd hcd) pe_int (fun _ _ => rfl)).run pins s σ H Q I ?_⟩
  obtain ⟨v, q, e, ⟨a, rfl, t⟩, h⟩ := h
  exact ⟨_, e, a, _, _, _, rfl, rfl, t, rfl, h⟩
theorem pe_den (i : Nat) {x : Str} {p p2 pos : Pos} {j : Nat} (hN : X.N[i]? = some x := by rfl) (hv : Vis X.env.scope x := by first | exact Or.inl rfl | exact Or.inr (Or.inl rfl) | exact Or.inr (Or.inr rfl)) (hd : (x == ("__debug__" : Str)) = false := by decide)
    (hcd : (x == ("__classdict__" : Str)) = false := by decide) : PE X (.Subscript (.Name x p) (.Constant (.int 1) j p2) pos) (tDen X.K i) := by
  refine ⟨fun pins s σ H Q I h => (pe_ix ix_tup (pe_var hN hv hd hcd) pe_int (fun _ _ => rfl)).run pins s σ H Q I ?_⟩
  obtain ⟨v, q, e, ⟨a, rfl, t⟩, h⟩ := h
  exact ⟨_, e, a, _, _, _, rfl, rfl, t, rfl, h⟩
end
theorem ifT {c : Bool} {A B : Prop} (hc : c = true) (h : A) : if c = true then A else B := by
  rw [if_pos hc]
  exact h
theorem ifF {c : Bool} {A B : Prop} (hc : c = false) (h : B) : if c = true then A else B := by
  rw [hc, if_neg Bool.false_ne_true]
  exact h
theorem if2 {c A B : Prop} [Decidable c] (h1 : c → A) (h2 : ¬ c → B) : if decide c = true then A else B := by
  by_cases h : c
  · exact ifT (decide_eq_true h) (h1 h)
  · exact ifF (decide_eq_false h) (h2 h)
theorem ifB {c : Bool} {A B : Prop} (h1 : c = true → A) (h2 : c = false → B) : if c = true then A else B := by
  cases c with
  | true => exact ifT rfl (h1 rfl)
  | false => exact ifF rfl (h2 rfl)
/-! ### promises of the reckoning -/
/-- common: of two numbers not below nought -/
def spCommon : Sp := fun vs H Q _ => ∃ a b : Nat, vs = [.int a, .int b] ∧ Q (.int (Nat.gcd a b : Nat)) H
/-- fraction: the bottom not nought and below a line -/
def spFraction (K : PySem.W.Frag) : Sp := fun vs H Q _ => ∃ t b : Int, vs = [.int t, .int b] ∧ b ≠ 0 ∧ b.natAbs < 2 ^ 9000 ∧ ∀ p H', Same H H' → RatAt K H' (.ref p) (Rat.divInt t b) → Q (.ref p) H'
/-- the same, the bottom above nought -/
def spLow (K : PySem.W.Frag) : Sp := fun vs H Q _ => ∃ (t : Int) (b : Nat), vs = [.int t, .int b] ∧ b ≠ 0 ∧ b < 2 ^ 9000 ∧ ∀ p H', Same H H' → RatAt K H' (.ref p) (mkRat t b) → Q (.ref p) H'
/-- an operation of two small fractions -/
def spOp2 (K : PySem.W.Frag) (f : Rat → Rat → Rat) : Sp := fun vs H Q _ => ∃ u v p q, vs = [u, v] ∧ RatAt K H u p ∧ RatAt K H v q ∧ Sm p ∧ Sm q ∧ ∀ r H', Same H H' → RatAt K H' (.ref r) (f p q) → Q (.ref r) H'
def spOver (K : PySem.W.Frag) : Sp := fun vs H Q _ => ∃ u v p q, vs = [u, v] ∧ RatAt K H u p ∧ RatAt K H v q ∧ Sm p ∧ Sm q ∧ q ≠ 0 ∧ ∀ r H', Same H H' → RatAt K H' (.ref r) (p / q) → Q (.ref r) H'
theorem sm_mul {a b : Nat} (ha : a < 2 ^ 4500) (hb : b < 2 ^ 4500) : a * b < 2 ^ 9000 := by
  have h : a * b < 2 ^ 4500 * 2 ^ 4500 := Nat.mul_lt_mul'' ha hb
  have e : (2 : Nat) ^ 4500 * 2 ^ 4500 = 2 ^ 9000 := (Nat.pow_add 2 4500 4500).symm
  rw [e] at h
  exact h
theorem cm {i j : Int} (ha : i.natAbs < 2 ^ 4500) (hb : j.natAbs < 2 ^ 4500) : CMulW i j := wide_mul ha hb (by decide) (by decide) (by decide)
theorem natAbs_den (q : Rat) : ((q.den : Int)).natAbs = q.den := Int.natAbs_natCast _
theorem gcd_pos_of {a b : Nat} (hb : b ≠ 0) : 0 < Nat.gcd a b := Nat.gcd_pos_of_pos_right _ (Nat.pos_of_ne_zero hb)
theorem gcd_lt_of {a b n : Nat} (hb : b ≠ 0) (h : b < n) : Nat.gcd a b < n := Nat.lt_of_le_of_lt (Nat.le_of_dvd (Nat.pos_of_ne_zero hb) (Nat.gcd_dvd_right a b)) h
theorem rat_new {K : PySem.W.Frag} {H : Hp} {p : Addr} {q : Rat} {x y : V} (ex : x = .int q.num) (ey : y = .int (q.den : Int)) : RatAt K (upd H p (.tup [x, y])) (.ref p) q := ⟨p, rfl, by rw [ex, ey]; exact SqT.of upd_same⟩
/-! ### lists of fractions -/
def Rats (K : PySem.W.Frag) (H : Hp) (xs : List V) (qs : List Rat) : Prop := xs.length = qs.length ∧ ∀ (i : Nat) (v : V) (q : Rat), xs[i]? = some v → qs[i]? = some q → RatAt K H v q
def RL (K : PySem.W.Frag) (H : Hp) (l : Addr) (qs : List Rat) : Prop := ∃ xs, H l = some (.lst xs) ∧ Rats K H xs qs
section
variable {K : PySem.W.Frag} {H H' : Hp} {xs ys : List V} {qs ps : List Rat} {l : Addr}
theorem Rats.kt (k : Kt H H') (h : Rats K H xs qs) : Rats K H' xs qs := ⟨h.1, fun i v q a b => (h.2 i v q a b).kt k⟩
theorem Rats.nil : Rats K H [] [] := ⟨rfl, fun i v q a _ => by simp at a⟩
theorem Rats.get (h : Rats K H xs qs) {i : Nat} {q : Rat} (e : qs[i]? = some q) : ∃ v, xs[i]? = some v ∧ RatAt K H v q := by
  have hi : i < qs.length := (List.getElem?_eq_some_iff.mp e).1
  have hx : i < xs.length := by rw [h.1]; exact hi
  exact ⟨xs[i], List.getElem?_eq_getElem hx, h.2 i _ q (List.getElem?_eq_getElem hx) e⟩
theorem Rats.set (h : Rats K H xs qs) {i : Nat} {v : V} {q : Rat} (r : RatAt K H v q) : Rats K H (xs.set i v) (qs.set i q) := by
  refine ⟨by rw [List.length_set, List.length_set, h.1], fun j u p a b => ?_⟩
  rw [List.getElem?_set] at a b
  by_cases e : i = j
  · rw [if_pos e] at a b
    split at a
    · split at b
      · cases a
        cases b
        exact r
      · cases b
    · cases a
  · rw [if_neg e] at a b
    exact h.2 j u p a b
theorem Rats.append (h : Rats K H xs qs) (h2 : Rats K H ys ps) : Rats K H (xs ++ ys) (qs ++ ps) := by
  refine ⟨by rw [List.length_append, List.length_append, h.1, h2.1], fun j u p a b => ?_⟩
  rw [List.getElem?_append] at a b
  rw [h.1] at a
  split at a
  · rename_i hj
    rw [if_pos hj] at b
    exact h.2 j u p a b
  · rename_i hj
    rw [if_neg hj] at b
    exact h2.2 _ u p a b
theorem Rats.one {v : V} {q : Rat} (r : RatAt K H v q) : Rats K H [v] [q] := ⟨rfl, fun i u p a b => by
  cases i with
  | zero =>
    cases (Option.some.inj a)
    cases (Option.some.inj b)
    exact r
  | succ i => simp at a⟩
theorem Rats.push (h : Rats K H xs qs) {v : V} {q : Rat} (r : RatAt K H v q) : Rats K H (xs ++ [v]) (qs ++ [q]) := h.append (Rats.one r)
theorem Rats.cons {v : V} {q : Rat} (r : RatAt K H v q) (h : Rats K H xs qs) : Rats K H (v :: xs) (q :: qs) := (Rats.one r).append h
theorem RL.same (k : Same H H') (h : RL K H l qs) : RL K H' l qs := by
  obtain ⟨xs, e, r⟩ := h
  exact ⟨xs, k _ _ e, r.kt (kt_of k)⟩
theorem RL.kt (k : Kt H H') (h : RL K H l qs) (hl : H' l = H l) : RL K H' l qs := by
  obtain ⟨xs, e, r⟩ := h
  exact ⟨xs, hl.trans e, r.kt k⟩
theorem RL.new {p : Addr} (hp : H p = none) (r : Rats K H xs qs) : RL K (upd H p (.lst xs)) p qs := ⟨xs, upd_same, r.kt (Kt.new hp)⟩
theorem RL.upd {xs0 : List V} (h : H l = some (.lst xs0)) (r : Rats K H xs qs) : RL K (upd H l (.lst xs)) l qs := ⟨xs, upd_same, r.kt (Kt.set h)⟩
/-- an item read -/
theorem ixr {Q : VK} {z : Int} {k : Nat} {q : Rat} (h : RL K H l qs) (hq : qs[k]? = some q) (hz : z = (k : Int)) (hQ : ∀ v, RatAt K H v q → Q v H) : rIxL K (.ref l) (.int z) H Q := by
  obtain ⟨xs, e, r⟩ := h
  obtain ⟨v, e2, rv⟩ := r.get hq
  exact ⟨l, xs, z, v, rfl, rfl, SqL.of e, at_of hz e2, hQ v rv⟩
/-- the data of a fraction, of a list of them -/
def dRat (q : Rat) : PyData := .tuple [.int q.num, .int (q.den : Int)]
def dRats (qs : List Rat) : PyData := .list (qs.map dRat)
theorem RatAt.dp {v : V} {q : Rat} (h : RatAt K H v q) : Dp K H v (dRat q) := by
  obtain ⟨a, rfl, t⟩ := h
  exact .tup t (.cons (.int _) (.cons (.int _) .nil))
theorem Rats.dp : ∀ {xs : List V} {qs : List Rat}, Rats K H xs qs → DpAll K H xs (qs.map dRat)
  | [], [], _ => .nil
  | [], _ :: _, h => by cases h.1
  | _ :: _, [], h => by cases h.1
  | v :: xs, q :: qs, h => .cons (h.2 0 v q rfl rfl).dp (Rats.dp ⟨Nat.succ.inj h.1, fun i u p a b => h.2 (i + 1) u p a b⟩)
theorem RL.dp (h : RL K H l qs) : Dp K H (.ref l) (dRats qs) := by
  obtain ⟨xs, e, r⟩ := h
  exact .lst (SqL.of e) r.dp
theorem rat_ext {p q : Rat} (h1 : p.num = q.num) (h2 : (p.den : Int) = (q.den : Int)) : p = q := Rat.ext h1 (Int.ofNat.inj h2)
theorem eqv_rat (p q : Rat) : PyData.eqv (dRat p) (dRat q) = decide (p = q) := by
  show ((p.num == q.num) && (((p.den : Int) == (q.den : Int)) && true)) = decide (p = q)
  rw [Bool.and_true]
  by_cases e : p = q
  · subst e
    simp
  · rw [decide_eq_false e]
    refine Bool.eq_false_iff.mpr fun z => e ?_
    obtain ⟨z1, z2⟩ := Bool.and_eq_true_iff.mp z
    exact rat_ext (eq_of_beq z1) (eq_of_beq z2)
theorem eqv_all : ∀ (ps qs : List Rat), PyData.eqvAll (ps.map dRat) (qs.map dRat) = decide (ps = qs)
  | [], [] => rfl
  | [], _ :: _ => rfl
  | _ :: _, [] => rfl
  | p :: ps, q :: qs => by
    show (PyData.eqv (dRat p) (dRat q) && PyData.eqvAll (ps.map dRat) (qs.map dRat)) = _
    rw [eqv_rat, eqv_all ps qs]
    by_cases e : p = q
    · subst e
      by_cases e2 : ps = qs
      · subst e2
        simp
      · simp [e2]
    · simp [e]
theorem eqv_rats (ps qs : List Rat) : PyData.eqv (dRats ps) (dRats qs) = decide (ps = qs) := eqv_all ps qs
theorem sh_rat (q : Rat) : SeqAt.shaped (dRat q) = true := by rfl
end
end Ef
namespace Ef
open PySem PySem.Spec PyProof.Rows L2
theorem can_rats : ∀ qs : List Rat, PyData.canLayAll0 (qs.map dRat) = true
  | [] => rfl
  | q :: qs => by
    show (PyData.canLay0 (dRat q) && PyData.canLayAll0 (qs.map dRat)) = true
    rw [can_rats qs]
    rfl
theorem dep_rats : ∀ qs : List Rat, PyData.depthAll (qs.map dRat) ≤ 1
  | [] => by decide
  | q :: qs => by
    show max (PyData.depth (dRat q)) (PyData.depthAll (qs.map dRat)) ≤ 1
    have h1 : PyData.depth (dRat q) = 1 := rfl
    have h2 := dep_rats qs
    rw [h1]
    omega
theorem sh_rats (qs : List Rat) : SeqAt.shaped (dRats qs) = true := by
  have h1 : PyData.canLay0 (dRats qs) = true := can_rats qs
  have h2 : PyData.depth (dRats qs) ≤ 64 := by
    show PyData.depthAll (qs.map dRat) + 1 ≤ 64
    have := dep_rats qs
    omega
  show (PyData.canLay0 (dRats qs) && decide (PyData.depth (dRats qs) ≤ 64)) = true
  rw [h1, decide_eq_true h2]
  rfl
/-! ### defs by name -/
abbrev FnP (K : PySem.W.Frag) (x q : Str) (st : Stmt) (f : Addr) (fd : FuncData) : Prop := FunD K x q (defArgs st) (defBody st) (defScope st) [] [] f fd
/-- the def x of the module stands as the statement st -/
def Df (K : PySem.W.Frag) (mg : Str → Option Value) (x : Str) (st : Stmt) : Prop := ∃ f fd, FnP K x x st f fd ∧ mg x = some (.ref f)
/-- the def x of the module keeps the promise sp -/
def Gd (CX : CXT) (P : Program) (w : World) (K : PySem.W.Frag) (mg : Str → Option Value) (base : Heap) (k : Nat) (x : Str) (ps : List Str) (sp : Sp) : Prop :=
  ∃ f fd, FnOk P w K mg base CX k f fd ps sp ∧ mg x = some (.ref f) ∧ PySem.W.keepIn K (.ref f) = true ∧ Binds K fd ps []
section
variable {CX : CXT} {P : Program} {w : World} {K : PySem.W.Frag} {mg : Str → Option Value} {base : Heap} {x : Str} {st : Stmt} {N ps : List Str} {k : Nat} {sp : Sp}
def Gf (CX : CXT) (P : Program) (w : World) (K : PySem.W.Frag) (mg : Str → Option Value) (base : Heap) (k : Nat) (x : Str) (st : Stmt) (ps : List Str) (sp : Sp) : Prop := ∀ f fd, FnP K x x st f fd → FnOk P w K mg base CX k f fd ps sp
theorem gf_of (S : FnScope N ps (defScope st)) (len : ∀ vs H Q E, sp vs H Q E → vs.length = ps.length)
    (body : ∀ (f : Addr) (cdv : Value) (A : Around) (outer : List Env) (s : Shared) (H : Hp) (vs : List V) (Q : VK) (E : XK), Room k (A.deeper (envOfC x (defScope st) s.heap.objs.size f cdv)) → sp vs H Q E →
      ∃ t, PSs (cxOf CX P w K mg base N x (defScope st) f cdv A outer s H E) (defBody st) t ∧ t { nx := fun _ H' => Q .non H', rt := Q } (start N vs) H) : Gf CX P w K mg base (k + 1) x st ps sp :=
  fun f _ F => F.ok S len (body f)
theorem gd_of (D : Df K mg x st) (S : FnScope N ps (defScope st))
    (hb : ∀ (kV doc pm : Value) (an : Option Addr) (cdv ct : Value) (us : List Value), us.length = ps.length → bindArgs (PySem.W.fnOf x x (defArgs st) (defBody st) (defScope st) .none kV doc pm an cdv ct) ⟨us, []⟩ = pure (ps.zip us))
    (len : ∀ vs H Q E, sp vs H Q E → vs.length = ps.length)
    (body : ∀ (f : Addr) (cdv : Value) (A : Around) (outer : List Env) (s : Shared) (H : Hp) (vs : List V) (Q : VK) (E : XK), Room k (A.deeper (envOfC x (defScope st) s.heap.objs.size f cdv)) → sp vs H Q E →
      ∃ t, PSs (cxOf CX P w K mg base N x (defScope st) f cdv A outer s H E) (defBody st) t ∧ t { nx := fun _ H' => Q .non H', rt := Q } (start N vs) H) : Gd CX P w K mg base (k + 1) x ps sp := by
  obtain ⟨f, fd, F, g⟩ := D
  exact ⟨f, fd, gf_of S len body f fd F, g, F.kp, F.bindsN hb⟩
end
section
variable {X : Cx} {k j : Nat} {x : Str} {ps : List Str} {sp : Sp} {e : Expr} {es : List Expr} {t : TA} {p pos : Pos}
/-- f(e, ..) -/
theorem pe_gd (G : Gd CX0 X.prog X.w X.K X.mg X.base j x ps sp) (hr : Room k X.A) (ha : PA X (e :: es) t) (hjk : j ≤ k := by decide) (hg : Gl X x := by rfl) (hdb : (x == ("__debug__" : Str)) = false := by decide)
    (he : starEach (e :: es) X.env = (false, eval e X.env) :: starEach es X.env := by rfl) (hpl : (backTo pos (starEach es X.env)).any (·.1) = false := by rfl) :
    PE X (.Call (.Name x p) (e :: es) [] pos) (tCall sp [] E0 t) := by
  obtain ⟨f, fd, F, g, kp, b⟩ := G
  exact pe_call F (hr.mono hjk) hg g kp b .nil pass0 ha hdb he hpl
end
end Ef
namespace Ef
open PySem PySem.Spec PyProof.Rows L2
/-! ### facts for the walks of the reckoning -/
theorem abs_int (t : Int) : (if t < 0 then -t else t) = ((t.natAbs : Nat) : Int) := by split <;> omega
theorem low_facts (t b' : Int) (n : Nat) (eb : b' = (n : Int)) (hn : n ≠ 0) (hl : n < 2 ^ 9000) :
    CDivW t (Nat.gcd t.natAbs n : Nat) ∧ CDivW b' (Nat.gcd t.natAbs n : Nat) ∧ t / ((Nat.gcd t.natAbs n : Nat) : Int) = (mkRat t n).num ∧ b' / ((Nat.gcd t.natAbs n : Nat) : Int) = ((mkRat t n).den : Int) := by
  subst eb
  have g1 : 0 < Nat.gcd t.natAbs n := gcd_pos_of hn
  have g2 : Nat.gcd t.natAbs n < 2 ^ 9000 := gcd_lt_of hn hl
  have g3 : ((Nat.gcd t.natAbs n : Nat) : Int).natAbs < 2 ^ 9000 := by rw [Int.natAbs_natCast]; exact g2
  refine ⟨wide_div (by omega) g3 (by decide) (by decide), wide_div (by omega) g3 (by decide) (by decide), (num_mk hn).symm, ?_⟩
  rw [den_mk hn, Int.natCast_ediv]
theorem den_mul_facts {p q : Rat} (p2 : p.den < 2 ^ 4500) (q2 : q.den < 2 ^ 4500) :
    (p.den : Int) * (q.den : Int) ≠ 0 ∧ ((p.den : Int) * (q.den : Int)).natAbs < 2 ^ 9000 ∧ ∀ t : Int, Rat.divInt t ((p.den : Int) * (q.den : Int)) = mkRat t (p.den * q.den) := by
  have e : (p.den : Int) * (q.den : Int) = ((p.den * q.den : Nat) : Int) := (Int.natCast_mul _ _).symm
  refine ⟨?_, ?_, fun t => ?_⟩
  · exact Int.ne_of_gt (Int.mul_pos (den_posI p) (den_posI q))
  · rw [e, Int.natAbs_natCast]
    exact sm_mul p2 q2
  · rw [e, Rat.divInt_ofNat]
theorem den_num_facts {p q : Rat} (p2 : p.den < 2 ^ 4500) (q1 : q.num.natAbs < 2 ^ 4500) (hq : q ≠ 0) :
    (p.den : Int) * q.num ≠ 0 ∧ ((p.den : Int) * q.num).natAbs < 2 ^ 9000 := by
  have h0 : q.num ≠ 0 := fun z => hq (Rat.num_eq_zero.mp z)
  have h1 : (p.den : Int) ≠ 0 := Int.ne_of_gt (den_posI p)
  refine ⟨fun z => (Int.mul_eq_zero.mp z).elim h1 h0, ?_⟩
  rw [Int.natAbs_mul, Int.natAbs_natCast]
  exact sm_mul p2 q1
theorem den_args (t : Int) (p q : Rat) : [V.int t, V.int ((p.den : Int) * (q.den : Int))] ++ [] = [V.int t, V.int ((p.den * q.den : Nat) : Int)] := by
  rw [Int.natCast_mul]
  rfl
theorem deqT {x y : Int} (h : decide (V.int x = V.int y) = true) : x = y := V.int.inj (of_decide_eq_true h)
theorem deqF {x y : Int} (h : decide (V.int x = V.int y) = false) : x ≠ y := fun z => of_decide_eq_false h (congrArg V.int z)
/-! ### the built-in names that no module binds -/
structure Bt (mg : Str → Option Value) : Prop where
  len : mg "len" = none
  abs : mg "abs" = none
  range : mg "range" = none
  isi : mg "isinstance" = none
  int : mg "int" = none
  bool : mg "bool" = none
  list : mg "list" = none
  tuple : mg "tuple" = none
  str : mg "str" = none
  rev : mg "reversed" = none
/-! ### the law's own helpers -/
/-- the script: read, never changed -/
def Scr (K : PySem.W.Frag) (H : Hp) (a : Addr) (ns : List Int) : Prop := SqL K H a (ns.map V.int) ∧ ∀ xs, H a ≠ some (.lst xs)
theorem Scr.kt {K : PySem.W.Frag} {H H' : Hp} {a : Addr} {ns : List Int} (k : Kt H H') (h : Scr K H a ns) : SqL K H' a (ns.map V.int) := by
  obtain ⟨h1, h2⟩ := h
  rcases h1 with (h | ⟨o, h⟩) | h
  · exact absurd h (h2 _)
  · exact .inl (.inr ⟨o, k _ _ h rfl⟩)
  · exact .inr h
def cellAt (ns : List Int) (k : Nat) : Int := ns.getD k 0
def spCellAt (K : PySem.W.Frag) : Sp := fun vs H Q _ => ∃ (a : Addr) (ns : List Int) (k : Nat), vs = [.ref a, .int (k : Int)] ∧ SqL K H a (ns.map V.int) ∧ Q (.int (cellAt ns k)) H
def spWhole : Sp := fun vs H Q _ => ∃ i : Int, vs = [.int i] ∧ Q (.bl true) H
/-- 0 - other, laid as a tuple -/
theorem neg_new {K : PySem.W.Frag} {H : Hp} {p : Addr} {q : Rat} : RatAt K (upd H p (.tup [.int (0 - q.num), .int (q.den : Int)])) (.ref p) (-q) := rat_new (by rw [Rat.neg_num, Int.zero_sub]) (by rw [Rat.neg_den])
theorem sm_neg {q : Rat} (h : Sm q) : Sm (-q) := ⟨by rw [Rat.neg_num, Int.natAbs_neg]; exact h.1, h.2⟩
/-- two lists of fractions are the same -/
def spParts (K : PySem.W.Frag) : Sp := fun vs H Q _ => ∃ (l m : Addr) (qs ps : List Rat), vs = [.ref l, .ref m] ∧ RL K H l qs ∧ RL K H m ps ∧ ps.length ≤ 1000 ∧ Q (.bl (decide (qs = ps))) H
theorem tyx_tup {K : PySem.W.Frag} {H : Hp} {a : Addr} {xs : List V} (h : SqT K H a xs) : TyX K H (.ref a) (.type "tuple") := by
  rcases h with (h | ⟨o, h⟩) | ⟨o, _, _, h, c, _⟩
  · exact .base (.tup h)
  · exact .fTuple h
  · exact .kTuple h c
theorem op_mul_str {X : Cx} : OpR X (binaryOp .Mult) (fun x y H Q => ∃ z n, x = .str z ∧ y = .int n ∧ MulOk z n ∧ Q (.str (Txt.mul z n)) H) := by
  intro pins s σ H x y v u Q I rx ry h
  obtain ⟨z, n, rfl, rfl, hz, q⟩ := h
  obtain ⟨t, rfl⟩ := rx
  obtain ⟨t', rfl⟩ := ry
  exact PySem.SB.mul hz (fun t' k => ⟨.str (Txt.mul z n), H, I.tok _, ⟨_, rfl⟩, q⟩)
/-- the law: a script handed in, True comes out -/
def spLaw (K : PySem.W.Frag) : Sp := fun vs H Q _ => ∃ (a : Addr) (ns : List Int), vs = [.ref a] ∧ Scr K H a ns ∧ ns.length ≤ 63 ∧ ∀ H', Q (.bl true) H'
/-- law 1: a fraction by a number -/
def spFrac1 (K : PySem.W.Frag) : Sp := fun vs H Q _ => ∃ (c : Int), vs = [.int c] ∧ ∀ r H' q, Same H H' → Sm q → RatAt K H' (.ref r) q → Q (.ref r) H'
/-- law 1: what was told is what is due -/
def spSame (K : PySem.W.Frag) : Sp := fun vs H Q _ => ∃ (v : V) (q : Rat) (t b : Int), vs = [v, .int t, .int b] ∧ RatAt K H v q ∧ b ≠ 0 ∧ b.natAbs < 2 ^ 9000 ∧ ∀ H', Same H H' → Q (.bl (decide (q = Rat.divInt t b))) H'
/-- an item of a written list of ints at a reckoned place -/
theorem ix_ints {K : PySem.W.Frag} {H : Hp} {Q : VK} {p : Addr} {bs : List Int} {z : Int} (hp : H p = some (.lst (bs.map V.int))) (h0 : 0 ≤ z) (h1 : z < bs.length) (hQ : ∀ b ∈ bs, Q (.int b) H) : rIxL K (.ref p) (.int z) H Q := by
  obtain ⟨n, rfl⟩ := Int.eq_ofNat_of_zero_le h0
  have hn : n < bs.length := by omega
  refine ⟨p, _, _, .int bs[n], rfl, rfl, SqL.of hp, atI_nat ?_, hQ _ (List.getElem_mem hn)⟩
  rw [List.getElem?_map, List.getElem?_eq_getElem hn]
  rfl
end Ef
namespace Ef
open PySem PySem.Spec PyProof.Rows L2
/-! ### the head: facts by names, and one test of our own -/
abbrev AlX : Type := He.AlD × Bool
def obsX (fa : List He.Fa) (fn : List He.DefD) (xb : PySem.W.Frag → Bool) (K : PySem.W.Frag) : AlX := (He.obsD fa fn K, xb K)
def obsXG (n : Nat) (fa : List He.Fa) (fn : List He.DefD) (xb : PySem.W.Frag → Bool) (g : Addr → Option Obj) : AlX := obsX fa fn xb (He.frG g (He.asD g n))
def SaysX (fa : List He.Fa) (fn : List He.DefD) (xb : PySem.W.Frag → Bool) (K : PySem.W.Frag) : Prop := obsX fa fn xb K = (He.valD fn, true)
def hookX (n : Nat) (fa : List He.Fa) (fn : List He.DefD) (xb : PySem.W.Frag → Bool) : PySem.W.Hook where
  α := AlX
  obs := fun s => obsXG n fa fn xb s.heap.get?
  val := fun _ => (He.valD fn, true)
  says := fun _ h => ∃ K : PySem.W.Frag, K.In h ∧ SaysX fa fn xb K
  of := fun _ _ e => ⟨_, He.frG_in, e⟩
  keeps := fun _ _ _ ⟨K, hK, c⟩ k => ⟨K, PySem.W.Frag.In.keeps hK k, c⟩
theorem obsXG_eq {n : Nat} {fa : List He.Fa} {fn : List He.DefD} {xb : PySem.W.Frag → Bool} {g : Addr → Option Obj} {s : Shared} (h : ∀ a, g a = s.heap.get? a) : obsXG n fa fn xb g = (hookX n fa fn xb).obs s := by
  have e : g = s.heap.get? := funext h
  rw [e] <;> rfl
theorem SaysX.d {fa : List He.Fa} {fn : List He.DefD} {xb : PySem.W.Frag → Bool} {K : PySem.W.Frag} (c : SaysX fa fn xb K) : He.SaysD fa fn K := congrArg Prod.fst c
theorem SaysX.x {fa : List He.Fa} {fn : List He.DefD} {xb : PySem.W.Frag → Bool} {K : PySem.W.Frag} (c : SaysX fa fn xb K) : xb K = true := congrArg Prod.snd c
def dfD (x : Str) (st : Stmt) : He.DefD := ⟨(x, none), x, x, defArgs st, defBody st, defScope st, [], []⟩
def mtD (C m q : Str) (st : Stmt) : He.DefD := ⟨(C, some m), m, q, defArgs st, defBody st, defScope st, [], []⟩
section
variable {fa : List He.Fa} {fn : List He.DefD} {xb : PySem.W.Frag → Bool} {K : PySem.W.Frag} {h : Heap} {mg : Str → Option Value}
theorem df_of (c : SaysX fa fn xb K) (X : K.In h) (G : h.Ns mainGlobals mg) (i j : Nat) {x : Str} {st : Stmt} (hd : fn[i]? = some (dfD x st) := by rfl) (hf : fa[j]? = some (.glo x) := by rfl) : Df K mg x st := by
  obtain ⟨fd, F⟩ := c.d.def_ i hd
  exact ⟨_, fd, F, He.glo_ok X G (c.d.fact j hf)⟩
end
def btNames : List Str := ["len", "abs", "range", "isinstance", "int", "bool", "list", "tuple", "str", "reversed"]
def btFa : List He.Fa := btNames.map He.Fa.free
theorem bt_of {fn : List He.DefD} {xb : PySem.W.Frag → Bool} {K : PySem.W.Frag} {h : Heap} {mg : Str → Option Value} {fa : List He.Fa} (c : SaysX (btFa ++ fa) fn xb K) (X : K.In h) (G : h.Ns mainGlobals mg) : Bt mg :=
  ⟨He.free_ok X G (c.d.fact 0 (f := .free "len") rfl), He.free_ok X G (c.d.fact 1 (f := .free "abs") rfl), He.free_ok X G (c.d.fact 2 (f := .free "range") rfl), He.free_ok X G (c.d.fact 3 (f := .free "isinstance") rfl), He.free_ok X G (c.d.fact 4 (f := .free "int") rfl),
   He.free_ok X G (c.d.fact 5 (f := .free "bool") rfl), He.free_ok X G (c.d.fact 6 (f := .free "list") rfl), He.free_ok X G (c.d.fact 7 (f := .free "tuple") rfl), He.free_ok X G (c.d.fact 8 (f := .free "str") rfl), He.free_ok X G (c.d.fact 9 (f := .free "reversed") rfl)⟩
/-- the script as the law is handed it -/
theorem scr_of {K : PySem.W.Frag} {H : Hp} {a : Addr} {ns : List Int} (hO : Only H) (hS : SqL K H a (ns.map V.int)) : Scr K H a ns := by
  refine ⟨hS, fun xs e => ?_⟩
  rcases hO a with z | ⟨o, ys, z⟩
  · rw [e] at z
    cases z
  · rw [e] at z
    cases z
end Ef
namespace Ef
open PySem PySem.Spec PyProof.Rows L2
/-! ### the mirror of the sounds -/
/-- a row of n + 1 cells -/
def tab (n : Nat) (f : Nat → Rat) : List Rat := (List.range (n + 1)).map f
def at0 (l : List Rat) (i : Nat) : Rat := l.getD i 0
/-- what goes to the right, to the left at the next moment -/
def nR (W r l : Nat → Rat) (j : Nat) : Rat := if j = 0 then 0 else r (j - 1) * (1 - W (j - 1)) + l j * W (j - 1)
def nL (n : Nat) (W r l : Nat → Rat) (j : Nat) : Rat := if j < n then r j * W j + l (j + 1) * (1 - W j) else 0
def stt (n : Nat) (W : Nat → Rat) : Nat → (Nat → Rat) × (Nat → Rat)
  | 0 => (fun j => if j = 0 then 1 else 0, fun _ => 0)
  | t + 1 => (nR W (stt n W t).1 (stt n W t).2, nL n W (stt n W t).1 (stt n W t).2)
def goR (n : Nat) (W : Nat → Rat) (t : Nat) : Nat → Rat := (stt n W t).1
def goL (n : Nat) (W : Nat → Rat) (t : Nat) : Nat → Rat := (stt n W t).2
def ears (n : Nat) (W : Nat → Rat) (m : Nat) : List Rat := (List.range m).map fun t => goL n W t 0
def gone (n : Nat) (W : Nat → Rat) (m : Nat) : List Rat := (List.range m).map fun t => goR n W t n
/-- what a step reckons with is small -/
structure StepAt (a w b : Rat) : Prop where
  sa : Sm a
  sw : Sm w
  sb : Sm b
  aw : Sm (a * w)
  ad : Sm (a - a * w)
  bw : Sm (b * w)
  bd : Sm (b - b * w)
  w1 : Sm (1 - w)
  av : Sm (a * (1 - w))
  bv : Sm (b * (1 - w))
def StepOk (n : Nat) (W r l : Nat → Rat) : Prop := ∀ k, k < n → StepAt (r k) (W k) (l (k + 1))
def RunOk (n : Nat) (W : Nat → Rat) (m : Nat) : Prop := ∀ t, t < m → StepOk n W (goR n W t) (goL n W t)
theorem tab_len (n : Nat) (f : Nat → Rat) : (tab n f).length = n + 1 := by unfold tab; rw [List.length_map, List.length_range]
theorem tab_get {n : Nat} {f : Nat → Rat} {i : Nat} (h : i ≤ n) : (tab n f)[i]? = some (f i) := by
  unfold tab
  rw [List.getElem?_map, List.getElem?_range (by omega)]
  rfl
theorem tab_congr {n : Nat} {f g : Nat → Rat} (h : ∀ j, j ≤ n → f j = g j) : tab n f = tab n g := by
  unfold tab
  refine List.map_congr_left fun j hj => h j ?_
  have := List.mem_range.mp hj
  omega
theorem tab_set {n : Nat} {f : Nat → Rat} {i : Nat} {q : Rat} : (tab n f).set i q = tab n (fun j => if j = i then q else f j) := by
  refine List.ext_getElem? fun j => ?_
  rw [List.getElem?_set, tab_len]
  by_cases hj : j ≤ n
  · rw [tab_get hj, tab_get hj]
    by_cases e : i = j
    · rw [if_pos e, if_pos (by omega), if_pos e.symm]
    · rw [if_neg e, if_neg (fun z => e z.symm)]
  · rw [List.getElem?_eq_none (by rw [tab_len]; omega), List.getElem?_eq_none (l := tab n _) (by rw [tab_len]; omega)]
    split
    · rw [if_neg (by omega)]
    · rfl
theorem rep_tab (n : Nat) : List.replicate (n + 1) (0 : Rat) = tab n (fun _ => 0) := by
  refine List.ext_getElem? fun j => ?_
  rw [List.getElem?_replicate]
  by_cases hj : j ≤ n
  · rw [if_pos (by omega), tab_get hj]
  · rw [if_neg (by omega), List.getElem?_eq_none (by rw [tab_len]; omega)]
theorem one_tab (n : Nat) : [1] ++ List.replicate n (0 : Rat) = tab n (fun j => if j = 0 then 1 else 0) := by
  refine List.ext_getElem? fun j => ?_
  cases j with
  | zero => rw [tab_get (Nat.zero_le _)]; rfl
  | succ j =>
    rw [List.getElem?_append_right (by simp), List.getElem?_replicate]
    by_cases hj : j + 1 ≤ n
    · rw [if_pos (by simp; omega), tab_get hj, if_neg (by omega)]
    · rw [if_neg (by simp; omega), List.getElem?_eq_none (by rw [tab_len]; omega)]
theorem at0_get {ws : List Rat} {k : Nat} (h : k < ws.length) : ws[k]? = some (at0 ws k) := by
  unfold at0
  rw [List.getD_eq_getElem?_getD, List.getElem?_eq_getElem h]
  rfl
theorem ears_succ (n : Nat) (W : Nat → Rat) (m : Nat) : ears n W (m + 1) = ears n W m ++ [goL n W m 0] := by unfold ears; rw [List.range_succ, List.map_append]; rfl
theorem gone_succ (n : Nat) (W : Nat → Rat) (m : Nat) : gone n W (m + 1) = gone n W m ++ [goR n W m n] := by unfold gone; rw [List.range_succ, List.map_append]; rfl
theorem ears_len (n : Nat) (W : Nat → Rat) (m : Nat) : (ears n W m).length = m := by unfold ears; rw [List.length_map, List.length_range]
theorem gone_len (n : Nat) (W : Nat → Rat) (m : Nat) : (gone n W m).length = m := by unfold gone; rw [List.length_map, List.length_range]
/-! ### heaps once more -/
section
variable {K : PySem.W.Frag} {H0 H H' : Hp} {l : Addr} {qs : List Rat}
theorem same_but (s : Same H0 H) (h0 : H0 l = none) (hb : ∀ b, b ≠ l → H' b = H b) : Same H0 H' := fun b o e => by
  rw [hb b (ne_of_none e h0)]
  exact s b o e
/-- an item stored -/
theorem ixs {Q : Hp → Prop} {z : Int} {i : Nat} {v : V} {q : Rat} (h : RL K H l qs) (hi : i < qs.length) (hz : z = (i : Int)) (r : RatAt K H v q)
    (hQ : ∀ H', Kt H H' → (∀ b, b ≠ l → H' b = H b) → RL K H' l (qs.set i q) → Q H') : rSetL (.ref l) (.int z) v H Q := by
  obtain ⟨xs, e, rx⟩ := h
  have hx : i < xs.length := by rw [rx.1]; exact hi
  refine ⟨l, xs, z, i, rfl, rfl, e, ?_, hQ _ (Kt.set e) (fun b hb => upd_ne hb) (RL.upd e (rx.set r))⟩
  unfold ixN
  rw [if_pos (by omega), if_pos (by omega)]
  congr 1
  omega
/-- an item put behind -/
theorem ixa {Q : VK} {v : V} {q : Rat} (h : RL K H l qs) (hn : qs.length < 1000) (r : RatAt K H v q)
    (hQ : ∀ H', Kt H H' → (∀ b, b ≠ l → H' b = H b) → RL K H' l (qs ++ [q]) → Q .non H') : rAppend (.ref l) [v] H Q := by
  obtain ⟨xs, e, rx⟩ := h
  exact ⟨l, xs, v, rfl, rfl, e, Nat.lt_of_lt_of_le (by rw [rx.1]; exact hn) (by decide), hQ _ (Kt.set e) (fun b hb => upd_ne hb) (RL.upd e (rx.push r))⟩
theorem RL.len_eq (h : RL K H l qs) : ∃ xs, H l = some (.lst xs) ∧ xs.length = qs.length := by
  obtain ⟨xs, e, rx⟩ := h
  exact ⟨xs, e, rx.1⟩
theorem ty_list (h : RL K H l qs) : tyV K "list" (.ref l) H := by
  obtain ⟨xs, e, rx⟩ := h
  exact .inl ⟨rfl, _, SqL.of e⟩
end
/-- a comprehension without a test -/
theorem yesQ {σ : L2.St} {H : Hp} {Q : Bool → Hp → Prop} (h : Q true H) : tYes σ H Q := h
theorem cI {v : V} {σ : L2.St} {H : Hp} {Q : VK} (h : Q v H) : tC v σ H Q := h
theorem nI {σ : L2.St} {H : Hp} {Q : List V → Hp → Prop} (h : Q [] H) : tNil σ H Q := h
theorem Rats.rep {K : PySem.W.Frag} {H : Hp} {v : V} {q : Rat} (r : RatAt K H v q) (n : Nat) : Rats K H (List.replicate n v) (List.replicate n q) := by
  refine ⟨by rw [List.length_replicate, List.length_replicate], fun i u p a b => ?_⟩
  rw [List.getElem?_replicate] at a b
  split at a
  · rw [if_pos (by assumption)] at b
    cases Option.some.inj a
    cases Option.some.inj b
    exact r
  · cases a
theorem flat_rep (v : V) : ∀ n : Nat, (List.replicate n [v]).flatten = List.replicate n v
  | 0 => rfl
  | n + 1 => by rw [List.replicate_succ, List.flatten_cons, flat_rep v n]; rfl
/-- [x] * n, of a fraction -/
theorem ixrep {K : PySem.W.Frag} {H : Hp} {Q : VK} {p : Addr} {v : V} {q : Rat} {z : Int} {n : Nat} (hp : H p = some (.lst [v])) (r : RatAt K H v q) (hz : z = (n : Int)) (hn : n ≤ 1000)
    (hQ : ∀ D H', H D = none → Same H H' → RL K H' D (List.replicate n q) → Q (.ref D) H') : rRep (.ref p) (.int z) H Q := by
  subst hz
  refine ⟨p, _, [v], rfl, rfl, hp, by omega, by omega, ?_, fun D hD => ?_⟩
  · rw [Int.toNat_natCast, List.length_singleton, Nat.one_mul]
    exact Nat.le_trans hn (by decide)
  · rw [Int.toNat_natCast, flat_rep]
    exact hQ D _ hD (same_new hD) (RL.new hD (Rats.rep r n))
/-- a constant of the module, a fraction -/
def KonstQ (K : PySem.W.Frag) (mg : Str → Option Value) (x : Str) (q : Rat) : Prop := ∃ a, mg x = some (.ref a) ∧ ∀ H, RatAt K H (.ref a) q
/-! ### promises -/
def spStep (K : PySem.W.Frag) : Sp := fun vs H Q _ => ∃ (lw lr ll : Addr) (ws : List Rat) (r l : Nat → Rat), vs = [.ref lw, .ref lr, .ref ll] ∧ RL K H lw ws ∧ RL K H lr (tab ws.length r) ∧ RL K H ll (tab ws.length l) ∧ ws.length ≤ 8 ∧ StepOk ws.length (at0 ws) r l ∧
  ∀ (p a b : Addr) (u v : V) (H' : Hp), Same H H' → H p = none → H a = none → H b = none → a ≠ b → H' p = some (.tup [.ref a, .ref b, u, v]) → RL K H' a (tab ws.length (nR (at0 ws) r l)) → RL K H' b (tab ws.length (nL ws.length (at0 ws) r l)) → RatAt K H' u (l 0) → RatAt K H' v (r ws.length) → Q (.ref p) H'
/-- what a run told -/
structure RunAt (K : PySem.W.Frag) (H H' : Hp) (p a b e g : Addr) (ws : List Rat) (m : Nat) : Prop where
  tup : H' p = some (.tup [.ref a, .ref b, .ref e, .ref g])
  rt : RL K H' a (tab ws.length (goR ws.length (at0 ws) m))
  lf : RL K H' b (tab ws.length (goL ws.length (at0 ws) m))
  er : RL K H' e (ears ws.length (at0 ws) m)
  gn : RL K H' g (gone ws.length (at0 ws) m)
  na : H a = none
  nb : H b = none
  ne : H e = none
  ng : H g = none
  ab : a ≠ b
def spLRun (K : PySem.W.Frag) : Sp := fun vs H Q _ => ∃ (lw : Addr) (ws : List Rat) (m : Nat), vs = [.ref lw, .int (m : Int)] ∧ RL K H lw ws ∧ ws.length ≤ 8 ∧ m ≤ 40 ∧ RunOk ws.length (at0 ws) m ∧
  ∀ (p a b e g : Addr) (H' : Hp), Same H H' → RunAt K H H' p a b e g ws m → Q (.ref p) H'
/-! ### fields -/
abbrev FC (K : PySem.W.Frag) : Addr := He.ga K "Field"
def FieldAt (K : PySem.W.Frag) (H : Hp) (p l : Addr) (ws : List Rat) : Prop := (∃ dx, H p = some (.ins (FC K) dx [("parts", .ref l)])) ∧ RL K H l ws
theorem FieldAt.same {K : PySem.W.Frag} {H H' : Hp} {p l : Addr} {ws : List Rat} (k : Same H H') (h : FieldAt K H p l ws) : FieldAt K H' p l ws := by
  obtain ⟨⟨dx, e⟩, r⟩ := h
  exact ⟨⟨dx, k _ _ e⟩, r.same k⟩
structure FTx (K : PySem.W.Frag) (mg : Str → Option Value) : Prop where
  cl : Cls K (FC K)
  nP : NoAttr K (FC K) "parts"
  gF : mg "Field" = some (.ref (FC K))
def Unit1 (ws : List Rat) : Prop := ∀ q ∈ ws, 0 ≤ q.num ∧ q.num ≤ (q.den : Int)
def spInit (K : PySem.W.Frag) : Sp := fun vs H Q _ => ∃ (p l dx : Addr) (ws : List Rat), vs = [.ref p, .ref l] ∧ H p = some (.ins (FC K) dx []) ∧ RL K H l ws ∧ 1 ≤ ws.length ∧ ws.length ≤ 8 ∧ Unit1 ws ∧
  ∀ (m : Addr) (H' : Hp), H m = none → FieldAt K H' p m ws → (∀ b o, H b = some o → b ≠ p → H' b = some o) → Q .non H'
def spWalls (K : PySem.W.Frag) : Sp := fun vs H Q _ => ∃ (p l : Addr) (ws : List Rat), vs = [.ref p] ∧ FieldAt K H p l ws ∧ ws.length ≤ 1000 ∧ ∀ (m : Addr) (H' : Hp), H m = none → Same H H' → RL K H' m ws → Q (.ref m) H'
def InitOk (P : Program) (w : World) (K : PySem.W.Frag) (mg : Str → Option Value) (base : Heap) : Prop := ∃ f fd, FnOk P w K mg base CX0 1 f fd ["self", "walls"] (spInit K) ∧ Mk K (FC K) f ∧ Binds K fd ["self", "walls"] []
def WallsOk (P : Program) (w : World) (K : PySem.W.Frag) (mg : Str → Option Value) (base : Heap) : Prop := ∃ f fd, FnOk P w K mg base CX0 1 f fd ["self"] (spWalls K) ∧ Meth K (FC K) "walls" f ∧ Binds K fd ["self"] []
/-- a field made -/
theorem make_field {K : PySem.W.Frag} {H : Hp} {Q : Addr → Hp → Prop} {l : Addr} {ws : List Rat} (h : RL K H l ws) (h1 : 1 ≤ ws.length) (h8 : ws.length ≤ 8) (hu : Unit1 ws)
    (hQ : ∀ (p m : Addr) (H' : Hp), H p = none → H m = none → Same H H' → FieldAt K H' p m ws → Q p H') :
    ∀ x dx, H x = none → H dx = none → dx ≠ x → spInit K (.ref x :: ([.ref l] ++ [])) (upd (upd H dx (.own x)) x (.ins (FC K) dx [])) (fun v H2 => v = .non ∧ Q x H2) E0 := by
  intro x dx nx nd ne
  have s0 : Same H (upd (upd H dx (.own x)) x (.ins (FC K) dx [])) := fun b o e => by
    rw [upd_ne (ne_of_none e nx), upd_ne (ne_of_none e nd)]
    exact e
  refine ⟨x, l, dx, ws, rfl, upd_same, h.same s0, h1, h8, hu, fun m H' hm hf hk => ⟨rfl, hQ x m H' nx (s0.free hm) (fun b o e => hk b o (s0 b o e) (ne_of_none e nx)) hf⟩⟩
/-- its walls asked -/
theorem ask_walls {K : PySem.W.Frag} {σ : L2.St} {H : Hp} {Q : VK} {p l : Addr} {ws : List Rat} (h : FieldAt K H p l ws) (h8 : ws.length ≤ 1000)
    (hQ : ∀ (m : Addr) (H' : Hp), H m = none → Same H H' → RL K H' m ws → Q (.ref m) H') :
    ∃ a dx fs, V.ref p = .ref a ∧ H a = some (.ins (FC K) dx fs) ∧ fs.lookup ("walls" : Str) = none ∧ tNil σ H fun vs H2 => spWalls K (.ref p :: (vs ++ [])) H2 Q E0 := by
  obtain ⟨dx, e⟩ := h.1
  have ne : (("walls" : Str) == ("parts" : Str)) = false := by decide +kernel
  exact ⟨p, dx, _, rfl, e, by simp [List.lookup, ne], p, l, ws, rfl, h, h8, hQ⟩
def spRun (K : PySem.W.Frag) : Sp := fun vs H Q _ => ∃ (f l : Addr) (ws : List Rat) (m : Nat), vs = [.ref f, .int (m : Int)] ∧ FieldAt K H f l ws ∧ ws.length ≤ 8 ∧ m ≤ 40 ∧ RunOk ws.length (at0 ws) m ∧
  ∀ (p a b e g : Addr) (H' : Hp), Same H H' → RunAt K H H' p a b e g ws m → Q (.ref p) H'
def spGoing (K : PySem.W.Frag) : Sp := fun vs H Q _ => ∃ (f l : Addr) (ws : List Rat) (m : Nat), vs = [.ref f, .int (m : Int)] ∧ FieldAt K H f l ws ∧ ws.length ≤ 8 ∧ m ≤ 40 ∧ RunOk ws.length (at0 ws) m ∧
  ∀ (p a b : Addr) (H' : Hp), Same H H' → H' p = some (.tup [.ref a, .ref b]) → RL K H' a (tab ws.length (goR ws.length (at0 ws) m)) → RL K H' b (tab ws.length (goL ws.length (at0 ws) m)) → H a = none → H b = none → a ≠ b → Q (.ref p) H'
def spHeard (K : PySem.W.Frag) : Sp := fun vs H Q _ => ∃ (f l : Addr) (ws : List Rat) (m : Nat), vs = [.ref f, .int (m : Int)] ∧ FieldAt K H f l ws ∧ ws.length ≤ 8 ∧ m ≤ 40 ∧ RunOk ws.length (at0 ws) m ∧
  ∀ (e : Addr) (H' : Hp), Same H H' → H e = none → RL K H' e (ears ws.length (at0 ws) m) → Q (.ref e) H'
def spLost (K : PySem.W.Frag) : Sp := fun vs H Q _ => ∃ (f l : Addr) (ws : List Rat) (m : Nat), vs = [.ref f, .int (m : Int)] ∧ FieldAt K H f l ws ∧ ws.length ≤ 8 ∧ m ≤ 40 ∧ RunOk ws.length (at0 ws) m ∧
  ∀ (e : Addr) (H' : Hp), Same H H' → H e = none → RL K H' e (gone ws.length (at0 ws) m) → Q (.ref e) H'
/-! ### the law's sides -/
def sideOf (c : Int) : Rat := if c / 6 % 5 = 0 then mkRat (c / 30 % 2) 1 else mkRat (c / 30 % (1 + c % 6 + 1)) (1 + c % 6).toNat
def sidesOf (ns : List Int) (first : Nat) (most : Int) : List Rat := (List.range (1 + cellAt ns first % most).toNat).map fun k => sideOf (cellAt ns (first + 1 + k))
def spSide (K : PySem.W.Frag) : Sp := fun vs H Q _ => ∃ c : Int, vs = [.int c] ∧ ∀ r H', Same H H' → RatAt K H' (.ref r) (sideOf c) → Q (.ref r) H'
def spSides (K : PySem.W.Frag) : Sp := fun vs H Q _ => ∃ (a : Addr) (ns : List Int) (first : Nat) (most : Int), vs = [.ref a, .int (first : Int), .int most] ∧ SqL K H a (ns.map V.int) ∧ 0 < most ∧ most ≤ 1000 ∧ ∀ l H', Same H H' → H l = none → RL K H' l (sidesOf ns first most) → Q (.ref l) H'
/-- the law's moment -/
def momOf (c : Int) (n : Nat) : Int := if n < 3 ∧ c / 13 % 4 = 1 then c / 52 % 41 else c % 13
def spMoment (K : PySem.W.Frag) : Sp := fun vs H Q _ => ∃ (a l : Addr) (ns : List Int) (k : Nat) (ws : List Rat), vs = [.ref a, .int (k : Int), .ref l] ∧ SqL K H a (ns.map V.int) ∧ RL K H l ws ∧ Q (.int (momOf (cellAt ns k) ws.length)) H
end Ef
namespace Ef
/-! ### bottoms that divide -/
def IsD (D : Nat) (q : Rat) : Prop := ∃ z : Int, q * (D : Rat) = (z : Rat)
theorem nz_cast {D : Nat} (h : 0 < D) : (D : Rat) ≠ 0 := by
  intro z
  have h1 : ((D : Nat) : Rat).num = 0 := by rw [z]; rfl
  have h2 : ((D : Int)) = 0 := h1
  omega
theorem IsD.eq {D : Nat} {q : Rat} (hD : 0 < D) {z : Int} (h : q * (D : Rat) = (z : Rat)) : q = mkRat z D := by
  rw [Rat.mkRat_eq_div]
  have h0 := nz_cast hD
  have : ((D : Nat) : Rat) = ((D : Int) : Rat) := rfl
  grind
theorem IsD.den {D : Nat} {q : Rat} (hD : 0 < D) (h : IsD D q) : q.den ≤ D := by
  obtain ⟨z, h⟩ := h
  rw [IsD.eq hD h]
  exact mk_den_le (by omega)
theorem cast_le {a b : Int} (h : (a : Rat) ≤ (b : Rat)) : a ≤ b := by
  have := (Rat.le_iff (a : Rat) (b : Rat)).mp h
  simpa using this
theorem le_cast {a b : Int} (h : a ≤ b) : (a : Rat) ≤ (b : Rat) := by
  refine (Rat.le_iff (a : Rat) (b : Rat)).mpr ?_
  simpa using h
theorem nat_pos {D : Nat} (h : 0 < D) : (0 : Rat) < (D : Rat) := by
  refine (Rat.lt_iff 0 (D : Rat)).mpr ?_
  simpa using h
theorem IsD.num {D : Nat} {q : Rat} (hD : 0 < D) (h : IsD D q) (h0 : -1 ≤ q) (h1 : q ≤ 1) : q.num.natAbs ≤ D := by
  obtain ⟨z, h⟩ := h
  have e := IsD.eq hD h
  have b : z.natAbs ≤ D := by
    have p := nat_pos hD
    have c1 : (z : Rat) ≤ ((D : Int) : Rat) := by
      rw [← h]
      have := Rat.mul_le_mul_of_nonneg_right h1 (Rat.le_of_lt p)
      have e2 : ((D : Nat) : Rat) = ((D : Int) : Rat) := rfl
      grind
    have c2 : ((-(D : Int) : Int) : Rat) ≤ (z : Rat) := by
      rw [← h]
      have := Rat.mul_le_mul_of_nonneg_right h0 (Rat.le_of_lt p)
      have e2 : ((-(D : Int) : Int) : Rat) = -(D : Rat) := by rw [Rat.intCast_neg]; rfl
      grind
    have d1 := cast_le c1
    have d2 := cast_le c2
    omega
  rw [e]
  exact Nat.le_trans (mk_num_le (by omega)) b
theorem sm_of {D : Nat} {q : Rat} (hD : 0 < D) (hl : D < 2 ^ 4500) (h : IsD D q) (h0 : -1 ≤ q) (h1 : q ≤ 1) : Sm q :=
  ⟨Nat.lt_of_le_of_lt (h.num hD h0 h1) hl, Nat.lt_of_le_of_lt (h.den hD) hl⟩
theorem IsD.mul {D E : Nat} {p q : Rat} (hp : IsD D p) (hq : IsD E q) : IsD (D * E) (p * q) := by
  obtain ⟨a, ha⟩ := hp
  obtain ⟨b, hb⟩ := hq
  refine ⟨a * b, ?_⟩
  rw [Rat.intCast_mul, ← ha, ← hb, Rat.natCast_mul]
  grind
theorem IsD.add {D : Nat} {p q : Rat} (hp : IsD D p) (hq : IsD D q) : IsD D (p + q) := by
  obtain ⟨a, ha⟩ := hp
  obtain ⟨b, hb⟩ := hq
  refine ⟨a + b, ?_⟩
  rw [Rat.intCast_add, ← ha, ← hb]
  grind
theorem IsD.sub {D : Nat} {p q : Rat} (hp : IsD D p) (hq : IsD D q) : IsD D (p - q) := by
  obtain ⟨a, ha⟩ := hp
  obtain ⟨b, hb⟩ := hq
  refine ⟨a - b, ?_⟩
  rw [Rat.intCast_sub, ← ha, ← hb]
  grind
theorem IsD.up {D : Nat} {p : Rat} (hp : IsD D p) (E : Nat) : IsD (D * E) p := by
  obtain ⟨a, ha⟩ := hp
  refine ⟨a * E, ?_⟩
  rw [Rat.intCast_mul, ← ha, Rat.natCast_mul]
  have : (((E : Nat) : Int) : Rat) = (E : Rat) := rfl
  grind
theorem IsD.int (D : Nat) (n : Int) : IsD D (n : Rat) := ⟨n * D, by rw [Rat.intCast_mul]; rfl⟩
theorem IsD.zero (D : Nat) : IsD D 0 := IsD.int D 0
theorem IsD.one (D : Nat) : IsD D 1 := IsD.int D 1
theorem isD_mk {a : Int} {b e : Nat} (hb : 0 < b) : IsD (b * e) (mkRat a b) := by
  refine ⟨a * e, ?_⟩
  rw [Rat.mkRat_eq_div, Rat.natCast_mul, Rat.intCast_mul]
  have h0 := nz_cast hb
  have e1 : (((b : Nat) : Int) : Rat) = (b : Rat) := rfl
  have e2 : (((e : Nat) : Int) : Rat) = (e : Rat) := rfl
  grind
/-! ### between nought and one -/
def In01 (q : Rat) : Prop := 0 ≤ q ∧ q ≤ 1
theorem In01.mul {p q : Rat} (hp : In01 p) (hq : In01 q) : In01 (p * q) := by
  refine ⟨Rat.mul_nonneg hp.1 hq.1, ?_⟩
  have := Rat.mul_le_mul_of_nonneg_right hp.2 hq.1
  have := hq.2
  grind
theorem In01.co {q : Rat} (hq : In01 q) : In01 (1 - q) := by
  obtain ⟨a, b⟩ := hq
  constructor <;> grind
theorem In01.mix {a b w : Rat} (ha : In01 a) (hb : In01 b) (hw : In01 w) : In01 (a * (1 - w) + b * w) := by
  have h1 := ha.mul hw.co
  have h2 := hb.mul hw
  refine ⟨by have := h1.1; have := h2.1; grind, ?_⟩
  have := Rat.mul_le_mul_of_nonneg_right ha.2 hw.co.1
  have := Rat.mul_le_mul_of_nonneg_right hb.2 hw.1
  grind
theorem In01.neg1 {q : Rat} (h : In01 q) : -1 ≤ q := by have := h.1; grind
theorem in01_zero : In01 0 := ⟨Rat.le_refl, by decide⟩
theorem in01_one : In01 1 := ⟨by decide, Rat.le_refl⟩
theorem unit_in {q : Rat} (h : In01 q) : 0 ≤ q.num ∧ q.num ≤ (q.den : Int) := by
  refine ⟨Rat.num_nonneg.mpr h.1, ?_⟩
  have := (Rat.le_iff q 1).mp h.2
  simpa using this
theorem in_unit {q : Rat} (h : 0 ≤ q.num ∧ q.num ≤ (q.den : Int)) : In01 q := by
  refine ⟨Rat.num_nonneg.mp h.1, (Rat.le_iff q 1).mpr ?_⟩
  simpa using h.2
theorem in01_mk {a : Int} {b : Nat} (hb : 0 < b) (h0 : 0 ≤ a) (h1 : a ≤ b) : In01 (mkRat a b) := by
  rw [Rat.mkRat_eq_div]
  have p := nat_pos hb
  have e1 : (((b : Nat) : Int) : Rat) = (b : Rat) := rfl
  have c0 : (0 : Rat) ≤ (a : Rat) := le_cast h0
  have c1 : (a : Rat) ≤ (b : Rat) := by rw [← e1]; exact le_cast h1
  have q : (a : Rat) / (b : Rat) * (b : Rat) = a := Rat.div_mul_cancel (nz_cast hb)
  generalize (a : Rat) / (b : Rat) = x at q ⊢
  refine ⟨?_, ?_⟩
  · refine Rat.le_of_mul_le_mul_right (c := (b : Rat)) ?_ p
    grind
  · refine Rat.le_of_mul_le_mul_right (c := (b : Rat)) ?_ p
    grind
/-! ### what runs keeps small -/
structure Good (D n : Nat) (W : Nat → Rat) : Prop where
  dp : 0 < D
  i : ∀ k, k < n → In01 (W k)
  d : ∀ k, k < n → IsD D (W k)
theorem state_good {D n : Nat} {W : Nat → Rat} (g : Good D n W) : ∀ t j, j ≤ n → (In01 (goR n W t j) ∧ IsD (D ^ t) (goR n W t j)) ∧ (In01 (goL n W t j) ∧ IsD (D ^ t) (goL n W t j))
  | 0, j, _ => by
    refine ⟨?_, in01_zero, IsD.zero _⟩
    show In01 (if j = 0 then 1 else 0) ∧ IsD _ (if j = 0 then 1 else 0)
    split
    · exact ⟨in01_one, IsD.one _⟩
    · exact ⟨in01_zero, IsD.zero _⟩
  | t + 1, j, hj => by
    have ih := state_good g t
    refine ⟨?_, ?_⟩
    · show In01 (nR W (goR n W t) (goL n W t) j) ∧ IsD (D ^ t * D) (nR W (goR n W t) (goL n W t) j)
      unfold nR
      split
      · exact ⟨in01_zero, IsD.zero _⟩
      · have a := (ih (j - 1) (by omega)).1
        have b := (ih j hj).2
        have w := g.i (j - 1) (by omega)
        have wd := g.d (j - 1) (by omega)
        exact ⟨a.1.mix b.1 w, (a.2.mul ((IsD.one D).sub wd)).add (b.2.mul wd)⟩
    · show In01 (nL n W (goR n W t) (goL n W t) j) ∧ IsD (D ^ t * D) (nL n W (goR n W t) (goL n W t) j)
      unfold nL
      split
      · rename_i hjn
        have a := (ih j hj).1
        have b := (ih (j + 1) (by omega)).2
        have w := g.i j hjn
        have wd := g.d j hjn
        have m := b.1.mix a.1 w
        refine ⟨?_, (a.2.mul wd).add (b.2.mul ((IsD.one D).sub wd))⟩
        rw [Rat.add_comm]
        exact m
      · exact ⟨in01_zero, IsD.zero _⟩
theorem run_ok {D n m : Nat} {W : Nat → Rat} (g : Good D n W) (hb : D ^ m < 2 ^ 4500) : RunOk n W m := fun t ht k hk => by
  obtain ⟨⟨a1, a2⟩, _⟩ := state_good g t k (by omega)
  obtain ⟨_, b1, b2⟩ := state_good g t (k + 1) (by omega)
  have w := g.i k hk
  have wd := g.d k hk
  have hp : 0 < D ^ (t + 1) := Nat.pow_pos g.dp
  have hl : D ^ (t + 1) < 2 ^ 4500 := Nat.lt_of_le_of_lt (Nat.pow_le_pow_right g.dp ht) hb
  have e : D ^ (t + 1) = D ^ t * D := Nat.pow_succ ..
  have up1 : ∀ q, IsD (D ^ t) q → IsD (D ^ (t + 1)) q := fun q h => by rw [e]; exact h.up D
  have up2 : IsD (D ^ (t + 1)) (W k) := by rw [e, Nat.mul_comm]; exact wd.up _
  have aw : IsD (D ^ (t + 1)) (goR n W t k * W k) := by rw [e]; exact a2.mul wd
  have bw : IsD (D ^ (t + 1)) (goL n W t (k + 1) * W k) := by rw [e]; exact b2.mul wd
  have av : IsD (D ^ (t + 1)) (goR n W t k * (1 - W k)) := by rw [e]; exact a2.mul ((IsD.one D).sub wd)
  have bv : IsD (D ^ (t + 1)) (goL n W t (k + 1) * (1 - W k)) := by rw [e]; exact b2.mul ((IsD.one D).sub wd)
  have go : ∀ q, IsD (D ^ (t + 1)) q → In01 q → Sm q := fun q h i => sm_of hp hl h i.neg1 i.2
  have ea : goR n W t k - goR n W t k * W k = goR n W t k * (1 - W k) := by grind
  have eb : goL n W t (k + 1) - goL n W t (k + 1) * W k = goL n W t (k + 1) * (1 - W k) := by grind
  exact ⟨go _ (up1 _ a2) a1, go _ up2 w, go _ (up1 _ b2) b1, go _ aw (a1.mul w), by rw [ea]; exact go _ av (a1.mul w.co), go _ bw (b1.mul w), by rw [eb]; exact go _ bv (b1.mul w.co),
    go _ ((IsD.one _).sub up2) w.co, go _ av (a1.mul w.co), go _ bv (b1.mul w.co)⟩
/-! ### the law's sides -/
theorem side_good (c : Int) : In01 (sideOf c) ∧ IsD 60 (sideOf c) := by
  unfold sideOf
  have m0 : 0 ≤ c % 6 := Int.emod_nonneg _ (by decide)
  have m1 : c % 6 < 6 := Int.emod_lt_of_pos _ (by decide)
  split
  · have a0 : 0 ≤ c / 30 % 2 := Int.emod_nonneg _ (by decide)
    have a1 : c / 30 % 2 < 2 := Int.emod_lt_of_pos _ (by decide)
    exact ⟨in01_mk (by decide) a0 (by omega), isD_mk (b := 1) (e := 60) (by decide)⟩
  · obtain ⟨n, en⟩ := Int.eq_ofNat_of_zero_le (show 0 ≤ 1 + c % 6 by omega)
    rw [en, Int.toNat_natCast]
    have a0 : 0 ≤ c / 30 % ((n : Int) + 1) := Int.emod_nonneg _ (by omega)
    have a1 : c / 30 % ((n : Int) + 1) < (n : Int) + 1 := Int.emod_lt_of_pos _ (by omega)
    refine ⟨in01_mk (by omega) a0 (by omega), ?_⟩
    have hn : n = 1 ∨ n = 2 ∨ n = 3 ∨ n = 4 ∨ n = 5 ∨ n = 6 := by omega
    rcases hn with h | h | h | h | h | h <;> subst h
    · exact isD_mk (b := 1) (e := 60) (by decide)
    · exact isD_mk (b := 2) (e := 30) (by decide)
    · exact isD_mk (b := 3) (e := 20) (by decide)
    · exact isD_mk (b := 4) (e := 15) (by decide)
    · exact isD_mk (b := 5) (e := 12) (by decide)
    · exact isD_mk (b := 6) (e := 10) (by decide)
theorem sides_len (ns : List Int) (first : Nat) {most : Int} (h : 0 < most) : 1 ≤ (sidesOf ns first most).length ∧ ((sidesOf ns first most).length : Int) ≤ most := by
  unfold sidesOf
  rw [List.length_map, List.length_range]
  have c0 : 0 ≤ cellAt ns first % most := Int.emod_nonneg _ (by omega)
  have c1 : cellAt ns first % most < most := Int.emod_lt_of_pos _ h
  omega
/-- a list of parts -/
structure GoodL (D : Nat) (ws : List Rat) : Prop where
  dp : 0 < D
  all : ∀ q ∈ ws, In01 q ∧ IsD D q
theorem GoodL.good {D : Nat} {ws : List Rat} (h : GoodL D ws) : Good D ws.length (at0 ws) := by
  have m : ∀ k, k < ws.length → at0 ws k ∈ ws := fun k hk => List.mem_of_getElem? (at0_get hk)
  exact ⟨h.dp, fun k hk => (h.all _ (m k hk)).1, fun k hk => (h.all _ (m k hk)).2⟩
theorem GoodL.unit {D : Nat} {ws : List Rat} (h : GoodL D ws) : Unit1 ws := fun q hq => unit_in (h.all q hq).1
theorem sides_good (ns : List Int) (first : Nat) (most : Int) : GoodL 60 (sidesOf ns first most) := by
  refine ⟨by decide, fun q hq => ?_⟩
  obtain ⟨k, _, rfl⟩ := List.mem_map.mp hq
  exact side_good _
theorem mom_range (c : Int) (n : Nat) : 0 ≤ momOf c n ∧ momOf c n ≤ 40 := by
  unfold momOf
  split
  · have a0 : 0 ≤ c / 52 % 41 := Int.emod_nonneg _ (by decide)
    have a1 : c / 52 % 41 < 41 := Int.emod_lt_of_pos _ (by decide)
    omega
  · have a0 : 0 ≤ c % 13 := Int.emod_nonneg _ (by decide)
    have a1 : c % 13 < 13 := Int.emod_lt_of_pos _ (by decide)
    omega
theorem pow60 {m : Nat} (h : m ≤ 40) : 60 ^ m < 2 ^ 4500 := by
  have h1 : 60 ^ m ≤ 60 ^ 40 := Nat.pow_le_pow_right (by decide) h
  have h2 : (60 : Nat) ^ 40 < 2 ^ 250 := by decide
  exact Nat.lt_of_lt_of_le (Nat.lt_of_le_of_lt h1 h2) (Nat.pow_le_pow_right (by decide) (by decide))
end Ef
namespace Ef
open PySem PySem.Spec PyProof.Rows L2
/-! ### the head's facts of fields and constants -/
section
variable {fa : List He.Fa} {fn : List He.DefD} {xb : PySem.W.Frag → Bool} {K : PySem.W.Frag} {h : Heap} {mg : Str → Option Value}
theorem konst_of {x : Str} {q : Rat} (hf : mg x = some (.ref (He.ga K x))) (hb : He.tupB K x [.int q.num, .int (q.den : Int)] = true) : KonstQ K mg x q := ⟨He.ga K x, hf, fun H => ⟨_, rfl, He.tupB_ok hb H⟩⟩
def fieldFa : List He.Fa := [.glo "Field", .cls "Field", .noat "Field" "parts", .meth "Field" "walls", .mkr "Field"]
theorem ftx_of (c : SaysX fa fn xb K) (X : K.In h) (G : h.Ns mainGlobals mg) (j : Nat) (h0 : fa[j]? = some (.glo "Field") := by rfl) (h1 : fa[j + 1]? = some (.cls "Field") := by rfl) (h2 : fa[j + 2]? = some (.noat "Field" "parts") := by rfl) : FTx K mg :=
  ⟨He.cls_ok (c.d.fact (j + 1) h1), He.noat_ok (c.d.fact (j + 2) h2), He.glo_ok X G (c.d.fact j h0)⟩
def xbK (K : PySem.W.Frag) : Bool := He.tupB K "NOUGHT" [.int 0, .int 1] && He.tupB K "ONE" [.int 1, .int 1]
end
end Ef
namespace Ef
/-! ### sums -/
def lsum : List Rat → Rat
  | [] => 0
  | q :: r => q + lsum r
theorem lsum_app : ∀ (l r : List Rat), lsum (l ++ r) = lsum l + lsum r
  | [], r => (Rat.zero_add _).symm
  | q :: l, r => by
    show q + lsum (l ++ r) = q + lsum l + lsum r
    rw [lsum_app l r]
    grind
theorem lsum_push (l : List Rat) (q : Rat) : lsum (l ++ [q]) = lsum l + q := by
  rw [lsum_app]
  show lsum l + (q + 0) = lsum l + q
  grind
def sumTo (f : Nat → Rat) (n : Nat) : Rat := lsum ((List.range n).map f)
theorem sumTo_succ (f : Nat → Rat) (n : Nat) : sumTo f (n + 1) = sumTo f n + f n := by
  unfold sumTo
  rw [List.range_succ, List.map_append]
  exact lsum_push _ _
theorem sumTo_zero (f : Nat → Rat) : sumTo f 0 = 0 := rfl
theorem step_part (n : Nat) (W r l : Nat → Rat) : ∀ i, i ≤ n → sumTo (nR W r l) (i + 1) + sumTo (nL n W r l) i = sumTo r i + sumTo l (i + 1) - l 0
  | 0, _ => by
    rw [sumTo_succ, sumTo_succ, sumTo_zero, sumTo_zero, sumTo_zero, sumTo_zero]
    have e : nR W r l 0 = 0 := rfl
    rw [e]
    grind
  | i + 1, h => by
    have ih := step_part n W r l i (by omega)
    rw [sumTo_succ _ (i + 1), sumTo_succ (nL n W r l) i, sumTo_succ r i, sumTo_succ l (i + 1)]
    have e1 : nR W r l (i + 1) = r i * (1 - W i) + l (i + 1) * W i := by
      unfold nR
      rw [if_neg (by omega), Nat.add_sub_cancel]
    have e2 : nL n W r l i = r i * W i + l (i + 1) * (1 - W i) := by
      unfold nL
      rw [if_pos (by omega)]
    rw [e1, e2]
    grind
theorem step_sum (n : Nat) (W r l : Nat → Rat) : sumTo (nR W r l) (n + 1) + sumTo (nL n W r l) (n + 1) = sumTo r (n + 1) + sumTo l (n + 1) - r n - l 0 := by
  have h := step_part n W r l n (Nat.le_refl _)
  have e : nL n W r l n = 0 := by
    unfold nL
    rw [if_neg (by omega)]
  rw [sumTo_succ (nL n W r l) n, e, sumTo_succ r n]
  grind
theorem all_one (n : Nat) (W : Nat → Rat) : ∀ m, sumTo (goR n W m) (n + 1) + sumTo (goL n W m) (n + 1) + lsum (ears n W m) + lsum (gone n W m) = 1
  | 0 => by
    have z : ∀ (f : Nat → Rat) (k : Nat), (∀ j, 0 < j → f j = 0) → sumTo f (k + 1) = f 0 := by
      intro f k hf
      induction k with
      | zero => rw [sumTo_succ, sumTo_zero]; grind
      | succ k ih => rw [sumTo_succ, ih, hf (k + 1) (by omega)]; grind
    rw [z (goR n W 0) n (fun j hj => by show (if j = 0 then (1 : Rat) else 0) = 0; rw [if_neg (by omega)]), z (goL n W 0) n (fun j _ => rfl)]
    show (1 : Rat) + 0 + 0 + 0 = 1
    grind
  | m + 1 => by
    have ih := all_one n W m
    rw [ears_succ, gone_succ, lsum_push, lsum_push]
    have h := step_sum n W (goR n W m) (goL n W m)
    have e1 : goR n W (m + 1) = nR W (goR n W m) (goL n W m) := rfl
    have e2 : goL n W (m + 1) = nL n W (goR n W m) (goL n W m) := rfl
    rw [e1, e2]
    grind
/-! ### where nothing goes -/
theorem parity (n : Nat) (W : Nat → Rat) : ∀ t j, ((j + t) % 2 = 1 → goR n W t j = 0) ∧ ((j + t) % 2 = 0 → goL n W t j = 0)
  | 0, j => by
    refine ⟨fun h => ?_, fun _ => rfl⟩
    show (if j = 0 then (1 : Rat) else 0) = 0
    rw [if_neg (by omega)]
  | t + 1, j => by
    refine ⟨fun h => ?_, fun h => ?_⟩
    · show nR W (goR n W t) (goL n W t) j = 0
      unfold nR
      split
      · rfl
      · rw [(parity n W t (j - 1)).1 (by omega), (parity n W t j).2 (by omega)]
        grind
    · show nL n W (goR n W t) (goL n W t) j = 0
      unfold nL
      split
      · rw [(parity n W t j).1 (by omega), (parity n W t (j + 1)).2 (by omega)]
        grind
      · rfl
theorem ears_take (n : Nat) (W : Nat → Rat) {k m : Nat} (h : k ≤ m) : (ears n W m).take k = ears n W k := by
  unfold ears
  rw [← List.map_take, List.take_range, Nat.min_eq_left h]
theorem gone_take (n : Nat) (W : Nat → Rat) {k m : Nat} (h : k ≤ m) : (gone n W m).take k = gone n W k := by
  unfold gone
  rw [← List.map_take, List.take_range, Nat.min_eq_left h]
theorem ears_get (n : Nat) (W : Nat → Rat) {k m : Nat} (h : k < m) : (ears n W m)[k]? = some (goL n W k 0) := by
  unfold ears
  rw [List.getElem?_map, List.getElem?_range h]
  rfl
theorem gone_get (n : Nat) (W : Nat → Rat) {k m : Nat} (h : k < m) : (gone n W m)[k]? = some (goR n W k n) := by
  unfold gone
  rw [List.getElem?_map, List.getElem?_range h]
  rfl
/-! ### parts of a sum that comes to one -/
theorem lsum_nonneg : ∀ {l : List Rat}, (∀ q ∈ l, 0 ≤ q) → 0 ≤ lsum l
  | [], _ => Rat.le_refl
  | q :: r, h => Rat.add_nonneg (h q List.mem_cons_self) (lsum_nonneg fun p hp => h p (List.mem_cons_of_mem _ hp))
theorem lsum_isD {D : Nat} : ∀ {l : List Rat}, (∀ q ∈ l, IsD D q) → IsD D (lsum l)
  | [], _ => IsD.zero D
  | q :: r, h => (h q List.mem_cons_self).add (lsum_isD fun p hp => h p (List.mem_cons_of_mem _ hp))
/-- a list of small strengths that come to one -/
structure OneL (D : Nat) (l : List Rat) : Prop where
  dp : 0 < D
  dl : D < 2 ^ 4500
  nn : ∀ q ∈ l, 0 ≤ q
  d : ∀ q ∈ l, IsD D q
  le : lsum l ≤ 1
theorem OneL.pre {D : Nat} {l r : List Rat} (h : OneL D (l ++ r)) : Sm (lsum l) := by
  have a : ∀ q ∈ l, 0 ≤ q := fun q hq => h.nn q (List.mem_append_left _ hq)
  have b : ∀ q ∈ r, 0 ≤ q := fun q hq => h.nn q (List.mem_append_right _ hq)
  have n1 := lsum_nonneg a
  have n2 := lsum_nonneg b
  have e := h.le
  rw [lsum_app] at e
  exact sm_of h.dp h.dl (lsum_isD fun q hq => h.d q (List.mem_append_left _ hq)) (by grind) (by grind)
theorem OneL.mem {D : Nat} {l : List Rat} (h : OneL D l) {q : Rat} (hq : q ∈ l) : Sm q := by
  obtain ⟨s, t, rfl⟩ := List.append_of_mem hq
  have n1 := lsum_nonneg (l := s) fun p hp => h.nn p (List.mem_append_left _ hp)
  have n2 := lsum_nonneg (l := t) fun p hp => h.nn p (List.mem_append_right _ (List.mem_cons_of_mem _ hp))
  have e := h.le
  rw [lsum_app] at e
  have e2 : lsum (q :: t) = q + lsum t := rfl
  rw [e2] at e
  have q0 := h.nn q hq
  exact sm_of h.dp h.dl (h.d q hq) (by grind) (by grind)
theorem mem_tab {n : Nat} {f : Nat → Rat} {q : Rat} (h : q ∈ tab n f) : ∃ j, j ≤ n ∧ f j = q := by
  obtain ⟨j, hj, e⟩ := List.mem_map.mp h
  exact ⟨j, by have := List.mem_range.mp hj; omega, e⟩
theorem lsum_tab (n : Nat) (f : Nat → Rat) : lsum (tab n f) = sumTo f (n + 1) := rfl
theorem up_pow {D t m : Nat} {q : Rat} (h : t ≤ m) (hq : IsD (D ^ t) q) : IsD (D ^ m) q := by
  have e : D ^ m = D ^ t * D ^ (m - t) := by rw [← Nat.pow_add, Nat.add_sub_cancel' h]
  rw [e]
  exact hq.up _
theorem run_one {D n m : Nat} {W : Nat → Rat} (g : Good D n W) (hb : D ^ m < 2 ^ 4500) :
    OneL (D ^ m) (tab n (goR n W m) ++ tab n (goL n W m) ++ ears n W m ++ gone n W m) := by
  have mem : ∀ q, q ∈ tab n (goR n W m) ++ tab n (goL n W m) ++ ears n W m ++ gone n W m → 0 ≤ q ∧ IsD (D ^ m) q := by
    intro q hq
    rcases List.mem_append.mp hq with hq | hq
    · rcases List.mem_append.mp hq with hq | hq
      · rcases List.mem_append.mp hq with hq | hq
        · obtain ⟨j, hj, rfl⟩ := mem_tab hq
          have := (state_good g m j hj).1
          exact ⟨this.1.1, this.2⟩
        · obtain ⟨j, hj, rfl⟩ := mem_tab hq
          have := (state_good g m j hj).2
          exact ⟨this.1.1, this.2⟩
      · obtain ⟨t, ht, rfl⟩ := List.mem_map.mp hq
        have ht := List.mem_range.mp ht
        have := (state_good g t 0 (Nat.zero_le _)).2
        exact ⟨this.1.1, up_pow (Nat.le_of_lt ht) this.2⟩
    · obtain ⟨t, ht, rfl⟩ := List.mem_map.mp hq
      have ht := List.mem_range.mp ht
      have := (state_good g t n (Nat.le_refl _)).1
      exact ⟨this.1.1, up_pow (Nat.le_of_lt ht) this.2⟩
  refine ⟨Nat.pow_pos g.dp, hb, fun q hq => (mem q hq).1, fun q hq => (mem q hq).2, ?_⟩
  rw [lsum_app, lsum_app, lsum_app, lsum_tab, lsum_tab, all_one]
  exact Rat.le_refl
theorem Rats.take {K : PySem.W.Frag} {H : L2.Hp} {xs : List L2.V} {qs : List Rat} (h : Rats K H xs qs) (j : Nat) : Rats K H (xs.take j) (qs.take j) := by
  refine ⟨by rw [List.length_take, List.length_take, h.1], fun i v q a b => ?_⟩
  rw [List.getElem?_take] at a b
  split at a
  · rw [if_pos (by assumption)] at b
    exact h.2 i v q a b
  · cases a
end Ef
namespace Ef
open PySem PySem.Spec PyProof.Rows L2 RT
/-! ### list(reversed(a list)) -/
section
variable {prog : Program} {w : World} {A : Around} {E : Value → Shared → Prop} {s : Shared} {R : Result → Shared → Prop}
/-- a fresh list at S takes what the reverse iterator at J gives -/
theorem grow_rev {J l S : Addr} {vs : Array Value} {c0 : Nat} {res : Value} (hh : A.handled = none) (hJ : s.heap.IsRevIter J l ((vs.size : Int) - 1)) (hl : s.heap.IsList l vs) (hlJ : l ≠ J) (hS : s.heap.get? S = some { cls := .type "list", data := .seq #[] c0 })
    (hSJ : S ≠ J) (hSl : S ≠ l) (hn : vs.size ≤ sizeLine)
    (hR : ∀ (g : Shared) (acc : Array Value) (c : Nat), Moved [S, J] (fun a b => b = a) s g → g.heap.get? S = some { cls := .type "list", dict := none, data := .seq acc c, slots := #[] } → ItemsOf (fun i v => vs[vs.size - 1 - i]? = some v) acc vs.size → R (.ok (.ret res)) g) :
    wpAny (model prog w) A.in1 (Builtin.List.listExtendWith (.ref S) (.ref J) res)
      (fun fin g => match fin with | .done f => R (.ok f) g | .again c' => c'.quiet = true ∧ codeAny (model prog w) A c' R g) (fun e g => R (.error e) g) s := by
  have V := (Walks.listRev (prog := prog) (w := w) (A := A.in1) hh J l hlJ vs).toS
  have hout : S ∉ [J, l] := by simp [hSJ, hSl]
  have tJ : s.TypeIs (.ref J) "list_reverseiterator" := hJ.typeIs
  have dif : Builtin.List.listSameRef (.ref S) (.ref J) = false := by simp [Builtin.List.listSameRef, hSJ]
  unfold Builtin.List.listExtendWith
  refine wpAny_bind (wpAny_typeOf tJ ?_)
  rw [if_neg (by rw [dif]; decide)]
  refine wpAny_bind (wpAny_pyIter_revIter hJ (wpAny_bind (wpAny_holding ?_)))
  unfold Builtin.List.listLengthHint
  refine wpAny_bind (wpAny_specialOf tJ nolen_lri ?_)
  show wpAny _ A.in1 (specialOf (Value.ref J) (Str.ofString "__length_hint__") >>= _) _ _ _
  refine wpAny_bind (wpAny_specialOf tJ hint_lri ?_)
  generalize hx : ("list_reverseiterator.__length_hint__" : String) = y
  wp_delta
  rw [show splitId y = some ("list_reverseiterator", "__length_hint__") from by subst hx; decide +kernel]
  subst hx
  refine wpAny_bind (wpAny_isInstance (b := true) tJ (by rw [isSubtype_type]; kernel_rfl) (wpAny_pure ?_))
  rw [if_neg (by decide)]
  have ez : ((vs.size : Nat) : Int) - 1 - ((0 : Nat) : Int) = (vs.size : Int) - 1 := by omega
  refine wpAny_pure ⟨plainId_quiet F.plain_extend_loop _, codeAny_extend_loopS V hn S hout res vs.size 0 s #[] c0 rfl (Nat.zero_le _) ⟨Nat.zero_le _, by rw [ez]; exact hJ, hl⟩ hS (ItemsOf.nil _) fun g acc c hm hg ha => ?_⟩
  exact hR g acc c hm hg ha
/-- list(J), J such an iterator -/
theorem call_list_rev {J l : Addr} {vs : Array Value} {Q : Value → Shared → Prop} (hh : A.handled = none) (hJ : s.heap.IsRevIter J l ((vs.size : Int) - 1)) (hl : s.heap.IsList l vs) (hlJ : l ≠ J) (hn : vs.size ≤ sizeLine)
    (hQ : ∀ (g : Shared) (acc : Array Value) (c : Nat), (∀ b o, b ≠ J → s.heap.get? b = some o → g.heap.get? b = some o) → g.gens = s.gens → g.drawn = s.drawn → g.os = s.os →
      g.heap.get? s.heap.objs.size = some { cls := .type "list", dict := none, data := .seq acc c, slots := #[] } → ItemsOf (fun i v => vs[vs.size - 1 - i]? = some v) acc vs.size → Q (.ref s.heap.objs.size) g) :
    wpAny (model prog w) A (call (.type "list") [.ref J]) Q E s := by
  obtain ⟨oJ, hoJ, _⟩ := id hJ
  obtain ⟨ol, hol, _⟩ := id hl
  have fJ : s.heap.objs.size ≠ J := Nat.ne_of_gt (Heap.lt_size hoJ)
  have fl : s.heap.objs.size ≠ l := Nat.ne_of_gt (Heap.lt_size hol)
  have h2 : A.in1.handled = none := hh
  refine callType_codes (Q₁ := fun u g => u = .ref s.heap.objs.size ∧ g = { s with heap := s.heap.push { cls := .type "list", data := .seq #[] } }) F.called_list (F.typeCall_list_1 _) F.entry_list_init (code_list_new _ ⟨rfl, rfl⟩) fun u g hg => ?_
  obtain ⟨rfl, rfl⟩ := hg
  have e0 : (s.heap.push { cls := .type "list", data := .seq #[] }).get? s.heap.objs.size = some { cls := .type "list", data := .seq #[] } := Heap.get?_push_size _ rfl
  refine ⟨⟨_, e0, rfl⟩, F.args_list_init_2 _ _, ?_⟩
  show wpAny _ A.in1.in1 (do let old ← Builtin.List.listItems (.ref s.heap.objs.size); Builtin.List.listUpdate (.ref s.heap.objs.size) (fun _ => #[]); letGo old.toList.reverse; Builtin.List.listExtendWith (.ref s.heap.objs.size) (.ref J) .none) _ _ _
  refine wpAny_bind ?_
  unfold Builtin.List.listItems
  refine wpAny_bind (wpAny_seqItems e0 rfl (wpAny_pure ?_))
  show wpAny _ A.in1.in1 (updateSeq s.heap.objs.size (fun _ => #[]) >>= fun _ => letGo (#[] : Array Value).toList.reverse >>= fun _ => Builtin.List.listExtendWith (.ref s.heap.objs.size) (.ref J) .none) _ _ _
  refine wpAny_bind (wpAny_updateSeq e0 rfl ?_)
  have e1 := Heap.get?_update_self (Obj.mapSeq (fun _ => (#[] : Array Value))) e0 rfl
  have kp : ∀ b o, b ≠ s.heap.objs.size → (s.heap.push { cls := .type "list", data := .seq #[] }).get? b = some o → ((s.heap.push { cls := .type "list", data := .seq #[] }).update s.heap.objs.size (Obj.mapSeq (fun _ => (#[] : Array Value)))).get? b = some o :=
    fun b o hb q => (Heap.get?_update_other _ _ (Ne.symm hb)).trans q
  refine wpAny_bind (wpAny_letGo ?_)
  refine grow_rev (s := { s with heap := (s.heap.push { cls := .type "list", data := .seq #[] }).update s.heap.objs.size (Obj.mapSeq (fun _ => (#[] : Array Value))) }) h2 (hJ.at fun o q => kp J o fJ.symm (Heap.get?_push_of_some _ q)) ?_ hlJ e1 fJ fl hn fun g acc c hm hg ha => ?_
  · obtain ⟨o, ho, hc, n, hd⟩ := hl
    exact ⟨o, kp l o fl.symm (Heap.get?_push_of_some _ ho), hc, n, hd⟩
  · refine ⟨rfl, hQ g acc c (fun b o hb q => ?_) hm.gens hm.drawn hm.os hg ha⟩
    have hbs : b ≠ s.heap.objs.size := Nat.ne_of_lt (Heap.lt_size q)
    exact hm.heap b o (by simp [hbs, hb]) (kp b o hbs (Heap.get?_push_of_some _ q))
end
def tListRev (K : PySem.W.Frag) (te : TE) : TE := fun σ H Q => te σ H fun v H1 => ∃ (a : Addr) (xs : List V), v = .ref a ∧ SqL K H1 a xs ∧ ∀ q, H1 q = none → Q (.ref q) (upd H1 q (.lst xs.reverse))
section
variable {X : Cx}
theorem pe_listRev {e : Expr} {te : TE} {n1 n2 c1 c2 : Pos} (hc : X.calm = true) (hg : Gl X "list") (hm : X.mg "list" = none) (hg2 : Gl X "reversed") (hm2 : X.mg "reversed" = none) (he : PE X e te)
    (ha : starEach [e] X.env = (false, eval e X.env) :: starEach [] X.env := by rfl)
    (hb : starEach [.Call (.Name "reversed" n2) [e] [] c2] X.env = (false, eval (.Call (.Name "reversed" n2) [e] [] c2) X.env) :: starEach [] X.env := by rfl) :
    PE X (.Call (.Name "list" n1) [.Call (.Name "reversed" n2) [e] [] c2] [] c1) (tListRev X.K te) := by
  refine ⟨fun pins s σ H Q I h => ?_⟩
  refine Call_ (ld_blt I hg hm (by decide +kernel : bootBuiltins "list" = some (.type "list")) (PyProof.Rows.callWith_type1 (args_cons (Call_ (ld_blt I hg2 hm2 PyProof.Rows.boot_reversed (PyProof.Rows.callWith_type1 (args_cons (thn (he.run pins s σ H _ I h) fun u s1 ⟨v, H1, I1, r1, q1⟩ => args_nil ?_) ha) ha rfl))) hb) hb rfl))
  obtain ⟨l, xs, rfl, hq, q⟩ := q1
  obtain rfl : u = Value.ref l := r1
  obtain ⟨its, rv, pl, hz⟩ := I1.list hq
  refine call_reversed_list pl.isList (args_nil ?_)
  have up : ∀ b o, s1.heap.get? b = some o → (s1.heap.push (revObj l ((its.toArray.size : Int) - 1))).get? b = some o := fun b o z => Heap.get?_push_of_some _ z
  have I2 : Inv X pins σ H1 { s1 with heap := s1.heap.push (revObj l ((its.toArray.size : Int) - 1)) } := I1.kept (t' := s1.toks) up
  have fp : FpOk X pins H1 s1.heap.objs.size := I1.fpOk (H' := H1) (b := s1.heap.objs.size) (Nat.le_refl _) (I1.hok.fresh (Nat.le_refl _))
  have hl := pl.isList
  obtain ⟨ol, hol, _⟩ := id hl
  have hlJ : l ≠ s1.heap.objs.size := Nat.ne_of_lt (Heap.lt_size hol)
  have hn : its.toArray.size ≤ sizeLine := by rw [List.size_toArray, ← rv.length]; exact hz
  refine call_list_rev (s := { s1 with heap := s1.heap.push (revObj l ((its.toArray.size : Int) - 1)) }) (I1.ok.hd hc) ⟨_, Heap.get?_push_size _ rfl, rfl, rfl⟩ (hl.push _) hlJ hn fun g acc c hk h1 h2 h3 hS hi => ?_
  obtain ⟨gh, gg, gd, gt, go⟩ := g
  obtain rfl : gg = s1.gens := h1
  obtain rfl : gd = s1.drawn := h2
  obtain rfl : go = s1.os := h3
  refine ⟨.ref _, upd H1 _ (.lst xs.reverse), I2.turnedNew (t' := gt) (ch := [s1.heap.objs.size]) (fun b o z y => hk b o (fun e => z (by rw [e]; exact List.mem_cons_self)) y) (fun b z => by rw [List.mem_singleton.mp z]; exact fp) (Nat.le_refl _) (show ObjOk X.prog X.w _ _ _ (.lst xs.reverse) from ⟨by rw [List.length_reverse]; exact hz, acc.toList, c, vals_rev rv hi, ?_⟩), rfl, q _ (I2.hok.fresh (Nat.le_refl _))⟩
  rw [Array.toArray_toList]
  exact hS
end
theorem Rats.rev {K : PySem.W.Frag} {H : Hp} {xs : List V} {qs : List Rat} (h : Rats K H xs qs) : Rats K H xs.reverse qs.reverse := by
  refine ⟨by rw [List.length_reverse, List.length_reverse, h.1], fun i v q a b => ?_⟩
  have hi : i < xs.length := by
    have := (List.getElem?_eq_some_iff.mp a).1
    rwa [List.length_reverse] at this
  rw [List.getElem?_reverse hi] at a
  rw [List.getElem?_reverse (by rw [← h.1]; exact hi), ← h.1] at b
  exact h.2 _ v q a b
/-! ### fields turned and joined -/
def spTurned (K : PySem.W.Frag) : Sp := fun vs H Q _ => ∃ (f l : Addr) (ws : List Rat), vs = [.ref f] ∧ FieldAt K H f l ws ∧ 1 ≤ ws.length ∧ ws.length ≤ 8 ∧ Unit1 ws ∧
  ∀ (p m : Addr) (H' : Hp), H p = none → Same H H' → FieldAt K H' p m ws.reverse → Q (.ref p) H'
def spJoined (K : PySem.W.Frag) : Sp := fun vs H Q _ => ∃ (f l g m : Addr) (ws us : List Rat), vs = [.ref f, .ref g] ∧ FieldAt K H f l ws ∧ FieldAt K H g m us ∧ 1 ≤ ws.length ∧ ws.length + us.length ≤ 8 ∧ Unit1 ws ∧ Unit1 us ∧
  ∀ (p r : Addr) (H' : Hp), H p = none → Same H H' → FieldAt K H' p r (ws ++ us) → Q (.ref p) H'
theorem Unit1.app {ws us : List Rat} (h : Unit1 ws) (g : Unit1 us) : Unit1 (ws ++ us) := fun q hq => (List.mem_append.mp hq).elim (h q) (g q)
theorem Unit1.rev {ws : List Rat} (h : Unit1 ws) : Unit1 ws.reverse := fun q hq => h q (List.mem_reverse.mp hq)
end Ef
namespace Ef
/-! ### from the other end -/
theorem sumTo_shift (f : Nat → Rat) : ∀ n, sumTo f (n + 1) = f 0 + sumTo (fun i => f (i + 1)) n
  | 0 => by
    rw [sumTo_succ, sumTo_zero, sumTo_zero]
    grind
  | n + 1 => by
    rw [sumTo_succ f (n + 1), sumTo_shift f n, sumTo_succ (fun i => f (i + 1)) n]
    grind
theorem sumTo_congr {f g : Nat → Rat} : ∀ {n : Nat}, (∀ i, i < n → f i = g i) → sumTo f n = sumTo g n
  | 0, _ => rfl
  | n + 1, h => by
    rw [sumTo_succ, sumTo_succ, sumTo_congr (n := n) (fun i hi => h i (by omega)), h n (by omega)]
theorem sumTo_add (f g : Nat → Rat) : ∀ n, sumTo (fun i => f i + g i) n = sumTo f n + sumTo g n
  | 0 => by
    rw [sumTo_zero, sumTo_zero, sumTo_zero]
    grind
  | n + 1 => by
    rw [sumTo_succ, sumTo_succ, sumTo_succ, sumTo_add f g n]
    grind
/-- one field's sounds against the turned one's -/
def pair (n : Nat) (r l r2 l2 : Nat → Rat) : Rat := sumTo (fun i => r i * r2 (n - i)) (n + 1) + sumTo (fun i => l i * l2 (n - i)) (n + 1)
theorem pair_step {n : Nat} {W V : Nat → Rat} (h : ∀ i, i < n → V (n - 1 - i) = W i) (r l r2 l2 : Nat → Rat) :
    pair n (nR W r l) (nL n W r l) r2 l2 = pair n r l (nR V r2 l2) (nL n V r2 l2) := by
  unfold pair
  rw [sumTo_shift, sumTo_succ (fun i => nL n W r l i * l2 (n - i)) n, sumTo_succ (fun i => r i * nR V r2 l2 (n - i)) n, sumTo_shift (fun i => l i * nL n V r2 l2 (n - i)) n]
  have e1 : nR W r l 0 = 0 := rfl
  have e2 : nL n W r l n = 0 := by
    unfold nL
    rw [if_neg (by omega)]
  have e3 : nR V r2 l2 (n - n) = 0 := by
    rw [Nat.sub_self]
    rfl
  have e4 : nL n V r2 l2 (n - 0) = 0 := by
    unfold nL
    rw [if_neg (by omega)]
  simp only [e1, e2, e3, e4]
  have k : sumTo (fun i => nR W r l (i + 1) * r2 (n - (i + 1)) + nL n W r l i * l2 (n - i)) n = sumTo (fun i => r i * nR V r2 l2 (n - i) + l (i + 1) * nL n V r2 l2 (n - (i + 1))) n := by
    refine sumTo_congr fun i hi => ?_
    have a1 : nR W r l (i + 1) = r i * (1 - W i) + l (i + 1) * W i := by
      unfold nR
      rw [if_neg (by omega), Nat.add_sub_cancel]
    have a2 : nL n W r l i = r i * W i + l (i + 1) * (1 - W i) := by
      unfold nL
      rw [if_pos (by omega)]
    obtain ⟨j, hj⟩ : ∃ j, n - 1 - i = j := ⟨_, rfl⟩
    have ej : n - (i + 1) = j := by omega
    have ej1 : n - i = j + 1 := by omega
    have hv := h i hi
    rw [hj] at hv
    have a3 : nR V r2 l2 (j + 1) = r2 j * (1 - V j) + l2 (j + 1) * V j := by
      unfold nR
      rw [if_neg (by omega), Nat.add_sub_cancel]
    have a4 : nL n V r2 l2 j = r2 j * V j + l2 (j + 1) * (1 - V j) := by
      unfold nL
      rw [if_pos (by omega)]
    show nR W r l (i + 1) * r2 (n - (i + 1)) + nL n W r l i * l2 (n - i) = r i * nR V r2 l2 (n - i) + l (i + 1) * nL n V r2 l2 (n - (i + 1))
    rw [ej, ej1, a1, a2, a3, a4, hv]
    grind
  rw [sumTo_add, sumTo_add] at k
  grind
theorem pair_run {n : Nat} {W V : Nat → Rat} (h : ∀ i, i < n → V (n - 1 - i) = W i) : ∀ s t, pair n (goR n W (s + t)) (goL n W (s + t)) (goR n V 0) (goL n V 0) = pair n (goR n W s) (goL n W s) (goR n V t) (goL n V t)
  | s, 0 => rfl
  | s, t + 1 => by
    have ih := pair_run h (s + 1) t
    have e : s + 1 + t = s + (t + 1) := by omega
    rw [e] at ih
    rw [ih]
    exact pair_step h _ _ _ _
theorem sumTo_nought (n : Nat) : sumTo (fun _ => 0) n = 0 := by
  induction n with
  | zero => rfl
  | succ k ih => rw [sumTo_succ, ih]; grind
theorem sumTo_one {f : Nat → Rat} {k : Nat} : ∀ {n : Nat}, k < n → (∀ i, i < n → i ≠ k → f i = 0) → sumTo f n = f k
  | 0, h, _ => by omega
  | n + 1, h, z => by
    rw [sumTo_succ]
    by_cases e : k = n
    · subst e
      have : sumTo f k = 0 := by
        rw [← sumTo_nought k]
        exact sumTo_congr fun i hi => z i (by omega) (by omega)
      rw [this]
      grind
    · rw [sumTo_one (n := n) (by omega) (fun i hi => z i (by omega)), z n (by omega) (fun q => e q.symm)]
      grind
theorem turn_at {n : Nat} {W V : Nat → Rat} (h : ∀ i, i < n → V (n - 1 - i) = W i) (t : Nat) : goR n W t n = goR n V t n := by
  have e := pair_run h 0 t
  rw [Nat.zero_add] at e
  unfold pair at e
  have z0 : ∀ U j, goR n U 0 j = if j = 0 then 1 else 0 := fun _ _ => rfl
  have z1 : ∀ U j, goL n U 0 j = 0 := fun _ _ => rfl
  have a1 : sumTo (fun i => goR n W t i * goR n V 0 (n - i)) (n + 1) = goR n W t n := by
    rw [sumTo_one (k := n) (by omega) (fun i hi ne => by rw [z0, if_neg (by omega)]; grind)]
    rw [z0, if_pos (by omega)]
    grind
  have a2 : sumTo (fun i => goL n W t i * goL n V 0 (n - i)) (n + 1) = 0 := by
    rw [← sumTo_nought (n + 1)]
    exact sumTo_congr fun i hi => by rw [z1]; grind
  have a3 : sumTo (fun i => goR n W 0 i * goR n V t (n - i)) (n + 1) = goR n V t n := by
    rw [sumTo_one (k := 0) (by omega) (fun i hi ne => by rw [z0, if_neg ne]; grind)]
    rw [z0, if_pos rfl, Nat.sub_zero]
    grind
  have a4 : sumTo (fun i => goL n W 0 i * goL n V t (n - i)) (n + 1) = 0 := by
    rw [← sumTo_nought (n + 1)]
    exact sumTo_congr fun i hi => by rw [z1]; grind
  rw [a1, a2, a3, a4] at e
  grind
theorem gone_rev (ws : List Rat) (m : Nat) : gone ws.reverse.length (at0 ws.reverse) m = gone ws.length (at0 ws) m := by
  rw [List.length_reverse]
  unfold gone
  refine List.map_congr_left fun t _ => (turn_at (fun i hi => ?_) t).symm
  unfold at0
  rw [List.getD_eq_getElem?_getD, List.getD_eq_getElem?_getD, List.getElem?_reverse (by omega)]
  congr 2
  omega
theorem GoodL.rev {D : Nat} {ws : List Rat} (h : GoodL D ws) : GoodL D ws.reverse := ⟨h.dp, fun q hq => h.all q (List.mem_reverse.mp hq)⟩
theorem GoodL.app {D : Nat} {ws vs : List Rat} (h : GoodL D ws) (g : GoodL D vs) : GoodL D (ws ++ vs) := ⟨h.dp, fun q hq => (List.mem_append.mp hq).elim (h.all q) (g.all q)⟩
end Ef
namespace Ef
/-! ### what is heard and lost in all -/
/-- what of a sound in cell j going right, left is lost at last -/
structure Harm (n : Nat) (W u v : Nat → Rat) : Prop where
  er : ∀ j, j < n → u j = (1 - W j) * u (j + 1) + W j * v j
  el : ∀ j, j < n → v (j + 1) = W j * u (j + 1) + (1 - W j) * v j
  ru : ∀ j, j ≤ n → In01 (u j)
  rv : ∀ j, j ≤ n → In01 (v j)
  un : u n = 1
  v0 : v 0 = 0
def wsum (n : Nat) (u v r l : Nat → Rat) : Rat := sumTo (fun i => r i * u i) (n + 1) + sumTo (fun i => l i * v i) (n + 1)
theorem wsum_step {n : Nat} {W u v : Nat → Rat} (h : Harm n W u v) (r l : Nat → Rat) : wsum n u v (nR W r l) (nL n W r l) + r n = wsum n u v r l := by
  unfold wsum
  rw [sumTo_shift, sumTo_succ (fun i => nL n W r l i * v i) n, sumTo_succ (fun i => r i * u i) n, sumTo_shift (fun i => l i * v i) n]
  have e1 : nR W r l 0 = 0 := rfl
  have e2 : nL n W r l n = 0 := by
    unfold nL
    rw [if_neg (by omega)]
  simp only [e1, e2, h.v0, h.un]
  have k : sumTo (fun i => nR W r l (i + 1) * u (i + 1) + nL n W r l i * v i) n = sumTo (fun i => r i * u i + l (i + 1) * v (i + 1)) n := by
    refine sumTo_congr fun i hi => ?_
    have a1 : nR W r l (i + 1) = r i * (1 - W i) + l (i + 1) * W i := by
      unfold nR
      rw [if_neg (by omega), Nat.add_sub_cancel]
    have a2 : nL n W r l i = r i * W i + l (i + 1) * (1 - W i) := by
      unfold nL
      rw [if_pos (by omega)]
    have a3 := h.er i hi
    have a4 := h.el i hi
    show nR W r l (i + 1) * u (i + 1) + nL n W r l i * v i = r i * u i + l (i + 1) * v (i + 1)
    rw [a1, a2, a3, a4]
    grind
  rw [sumTo_add, sumTo_add] at k
  grind
theorem wsum_run {n : Nat} {W u v : Nat → Rat} (h : Harm n W u v) : ∀ m, wsum n u v (goR n W m) (goL n W m) + lsum (gone n W m) = u 0
  | 0 => by
    have z0 : ∀ j, goR n W 0 j = if j = 0 then 1 else 0 := fun _ => rfl
    have z1 : ∀ j, goL n W 0 j = 0 := fun _ => rfl
    unfold wsum
    rw [sumTo_one (k := 0) (by omega) (fun i hi ne => by rw [z0, if_neg ne]; grind), sumTo_one (f := fun i => goL n W 0 i * v i) (k := 0) (by omega) (fun i hi ne => by rw [z1]; grind)]
    rw [z0, z1, if_pos rfl]
    show (1 : Rat) * u 0 + 0 * v 0 + 0 = u 0
    grind
  | m + 1 => by
    have ih := wsum_run h m
    have s := wsum_step h (goR n W m) (goL n W m)
    rw [gone_succ, lsum_push]
    have e1 : goR n W (m + 1) = nR W (goR n W m) (goL n W m) := rfl
    have e2 : goL n W (m + 1) = nL n W (goR n W m) (goL n W m) := rfl
    rw [e1, e2]
    grind
theorem sumTo_le {f g : Nat → Rat} : ∀ {n : Nat}, (∀ i, i < n → f i ≤ g i) → sumTo f n ≤ sumTo g n
  | 0, _ => Rat.le_refl
  | n + 1, h => by
    rw [sumTo_succ, sumTo_succ]
    have a := sumTo_le (n := n) fun i hi => h i (by omega)
    have b := h n (by omega)
    grind
theorem wsum_range {n : Nat} {W u v : Nat → Rat} (h : Harm n W u v) {r l : Nat → Rat} (hr : ∀ j, j ≤ n → 0 ≤ r j) (hl : ∀ j, j ≤ n → 0 ≤ l j) :
    0 ≤ wsum n u v r l ∧ wsum n u v r l ≤ sumTo r (n + 1) + sumTo l (n + 1) := by
  unfold wsum
  constructor
  · have a : sumTo (fun _ => 0) (n + 1) ≤ sumTo (fun i => r i * u i) (n + 1) := sumTo_le fun i hi => Rat.mul_nonneg (hr i (by omega)) (h.ru i (by omega)).1
    have b : sumTo (fun _ => 0) (n + 1) ≤ sumTo (fun i => l i * v i) (n + 1) := sumTo_le fun i hi => Rat.mul_nonneg (hl i (by omega)) (h.rv i (by omega)).1
    rw [sumTo_nought] at a b
    grind
  · have one : ∀ a b : Rat, 0 ≤ a → In01 b → a * b ≤ a := fun a b ha hb => by
      have := Rat.mul_le_mul_of_nonneg_left hb.2 ha
      grind
    have a : sumTo (fun i => r i * u i) (n + 1) ≤ sumTo r (n + 1) := sumTo_le fun i hi => one _ _ (hr i (by omega)) (h.ru i (by omega))
    have b : sumTo (fun i => l i * v i) (n + 1) ≤ sumTo l (n + 1) := sumTo_le fun i hi => one _ _ (hl i (by omega)) (h.rv i (by omega))
    grind
/-- the bars of the walls ahead of j -/
def bar (W : Nat → Rat) (j : Nat) : Rat := 1 + sumTo (fun i => W i / (1 - W i)) j
theorem ratio_nn {w : Rat} (h : In01 w) (h1 : w ≠ 1) : 0 ≤ w / (1 - w) := by
  have h2 := h.2
  have p : 0 < 1 - w := by grind
  have q : w / (1 - w) * (1 - w) = w := Rat.div_mul_cancel (by grind)
  refine Rat.le_of_mul_le_mul_right (c := 1 - w) ?_ p
  have := h.1
  grind
theorem bar_ge {n : Nat} {W : Nat → Rat} (h : ∀ k, k < n → In01 (W k)) (h1 : ∀ k, k < n → W k ≠ 1) : ∀ j, j ≤ n → 1 ≤ bar W j
  | 0, _ => by
    unfold bar
    rw [sumTo_zero]
    grind
  | j + 1, hj => by
    have ih := bar_ge h h1 j (by omega)
    have a := ratio_nn (h j (by omega)) (h1 j (by omega))
    unfold bar at ih ⊢
    rw [sumTo_succ]
    grind
theorem bar_mono {n : Nat} {W : Nat → Rat} (h : ∀ k, k < n → In01 (W k)) (h1 : ∀ k, k < n → W k ≠ 1) : ∀ d j, j + d ≤ n → bar W j ≤ bar W (j + d)
  | 0, _, _ => Rat.le_refl
  | d + 1, j, hj => by
    have ih := bar_mono h h1 d j (by omega)
    have a := ratio_nn (h (j + d) (by omega)) (h1 (j + d) (by omega))
    have e : bar W (j + (d + 1)) = bar W (j + d) + W (j + d) / (1 - W (j + d)) := by
      unfold bar
      rw [← Nat.add_assoc, sumTo_succ]
      grind
    rw [e]
    grind
/-- no wall returns all -/
theorem harm_bars {n : Nat} {W : Nat → Rat} (h : ∀ k, k < n → In01 (W k)) (h1 : ∀ k, k < n → W k ≠ 1) : Harm n W (fun j => bar W j / bar W n) (fun j => (bar W j - 1) / bar W n) := by
  have bn := bar_ge h h1 n (Nat.le_refl _)
  have p : 0 < bar W n := by grind
  have nz : bar W n ≠ 0 := by grind
  have step : ∀ j, j < n → ∃ x, bar W (j + 1) = bar W j + x ∧ x * (1 - W j) = W j := fun j hj => by
    refine ⟨W j / (1 - W j), ?_, ?_⟩
    · unfold bar
      rw [sumTo_succ]
      grind
    · exact Rat.div_mul_cancel (by have := h1 j hj; grind)
  have le1 : ∀ j, j ≤ n → bar W j ≤ bar W n := fun j hj => by
    have := bar_mono h h1 (n - j) j (by omega)
    rwa [Nat.add_sub_cancel' hj] at this
  have dv : ∀ a : Rat, 0 ≤ a → a ≤ bar W n → In01 (a / bar W n) := fun a a0 a1 => by
    have q : a / bar W n * bar W n = a := Rat.div_mul_cancel nz
    generalize a / bar W n = x at q ⊢
    refine ⟨?_, ?_⟩
    · refine Rat.le_of_mul_le_mul_right (c := bar W n) ?_ p
      grind
    · refine Rat.le_of_mul_le_mul_right (c := bar W n) ?_ p
      grind
  refine ⟨fun j hj => ?_, fun j hj => ?_, fun j hj => ?_, fun j hj => ?_, ?_, ?_⟩
  · obtain ⟨x, e1, e2⟩ := step j hj
    show bar W j / bar W n = (1 - W j) * (bar W (j + 1) / bar W n) + W j * ((bar W j - 1) / bar W n)
    rw [e1, Rat.div_def, Rat.div_def, Rat.div_def]
    grind
  · obtain ⟨x, e1, e2⟩ := step j hj
    show (bar W (j + 1) - 1) / bar W n = W j * (bar W (j + 1) / bar W n) + (1 - W j) * ((bar W j - 1) / bar W n)
    rw [e1, Rat.div_def, Rat.div_def, Rat.div_def]
    grind
  · have a := bar_ge h h1 j hj
    exact dv _ (by grind) (le1 j hj)
  · have a := bar_ge h h1 j hj
    have b := le1 j hj
    exact dv _ (by grind) (by grind)
  · show bar W n / bar W n = 1
    have q : bar W n / bar W n * bar W n = bar W n := Rat.div_mul_cancel nz
    grind
  · show (bar W 0 - 1) / bar W n = 0
    have e : bar W 0 = 1 := by
      unfold bar
      rw [sumTo_zero]
      grind
    rw [e, Rat.div_def]
    grind
/-- a wall that returns all -/
theorem harm_wall {n k : Nat} {W : Nat → Rat} (hk : k < n) (h1 : W k = 1) : Harm n W (fun j => if j ≤ k then 0 else 1) (fun j => if j ≤ k then 0 else 1) := by
  refine ⟨fun j hj => ?_, fun j hj => ?_, fun j hj => ?_, fun j hj => ?_, ?_, ?_⟩
  · show (if j ≤ k then (0 : Rat) else 1) = (1 - W j) * (if j + 1 ≤ k then 0 else 1) + W j * (if j ≤ k then 0 else 1)
    by_cases a : j = k
    · subst a
      rw [if_pos (Nat.le_refl _), if_neg (by omega), h1]
      grind
    · by_cases b : j ≤ k
      · rw [if_pos b, if_pos (by omega)]
        grind
      · rw [if_neg b, if_neg (by omega)]
        grind
  · show (if j + 1 ≤ k then (0 : Rat) else 1) = W j * (if j + 1 ≤ k then 0 else 1) + (1 - W j) * (if j ≤ k then 0 else 1)
    by_cases a : j = k
    · subst a
      rw [if_pos (Nat.le_refl _), if_neg (by omega), h1]
      grind
    · by_cases b : j ≤ k
      · rw [if_pos b, if_pos (by omega)]
        grind
      · rw [if_neg b, if_neg (by omega)]
        grind
  · show In01 (if j ≤ k then 0 else 1)
    split
    · exact in01_zero
    · exact in01_one
  · show In01 (if j ≤ k then 0 else 1)
    split
    · exact in01_zero
    · exact in01_one
  · exact if_neg (by omega)
  · exact if_pos (Nat.zero_le _)
/-- what is heard, lost in all -/
def barL (ws : List Rat) : Rat := 1 + lsum (ws.map fun w => w / (1 - w))
def dueG (ws : List Rat) : Rat := if 1 ∈ ws then 0 else 1 / barL ws
theorem at0_map (f : Rat → Rat) : ∀ (ws : List Rat), sumTo (fun i => f (at0 ws i)) ws.length = lsum (ws.map f)
  | [] => rfl
  | w :: ws => by
    rw [List.length_cons, sumTo_shift]
    have e := at0_map f ws
    show f (at0 (w :: ws) 0) + sumTo (fun i => f (at0 (w :: ws) (i + 1))) ws.length = f w + lsum (ws.map f)
    rw [← e]
    rfl
theorem harm_of {D : Nat} {ws : List Rat} (g : ∀ q ∈ ws, In01 q) : ∃ u v, Harm ws.length (at0 ws) u v ∧ u 0 = dueG ws := by
  have gi : ∀ k, k < ws.length → at0 ws k ∈ ws := fun k hk => List.mem_of_getElem? (at0_get hk)
  by_cases h : 1 ∈ ws
  · obtain ⟨k, hk, e⟩ := List.mem_iff_getElem.mp h
    have e2 : at0 ws k = 1 := by
      have := at0_get hk
      rw [List.getElem?_eq_getElem hk, e] at this
      exact (Option.some.inj this).symm
    refine ⟨_, _, harm_wall hk e2, ?_⟩
    unfold dueG
    rw [if_pos h]
    rfl
  · refine ⟨_, _, harm_bars (fun k hk => g _ (gi k hk)) (fun k hk z => h (z ▸ gi k hk)), ?_⟩
    unfold dueG
    rw [if_neg h]
    have e : bar (at0 ws) 0 = 1 := by
      unfold bar
      rw [sumTo_zero]
      grind
    show bar (at0 ws) 0 / bar (at0 ws) ws.length = 1 / barL ws
    rw [e]
    unfold bar barL
    rw [at0_map (fun w => w / (1 - w)) ws]
/-- the promise of the last lines of the law -/
theorem in_all_bounds {D : Nat} {ws : List Rat} (g : GoodL D ws) (m : Nat) :
    let S := sumTo (goR ws.length (at0 ws) m) (ws.length + 1) + sumTo (goL ws.length (at0 ws) m) (ws.length + 1)
    (0 ≤ (1 - dueG ws) - lsum (ears ws.length (at0 ws) m) ∧ 0 ≤ S - ((1 - dueG ws) - lsum (ears ws.length (at0 ws) m))) ∧ 0 ≤ dueG ws - lsum (gone ws.length (at0 ws) m) ∧ 0 ≤ S - (dueG ws - lsum (gone ws.length (at0 ws) m)) := by
  obtain ⟨u, v, H, e0⟩ := harm_of (D := D) (ws := ws) fun q hq => (g.all q hq).1
  have a := wsum_run H m
  have st := state_good g.good m
  have b := wsum_range H (r := goR ws.length (at0 ws) m) (l := goL ws.length (at0 ws) m) (fun j hj => (st j hj).1.1.1) (fun j hj => (st j hj).2.1.1)
  have c := all_one ws.length (at0 ws) m
  rw [e0] at a
  intro S
  have eS : S = sumTo (goR ws.length (at0 ws) m) (ws.length + 1) + sumTo (goL ws.length (at0 ws) m) (ws.length + 1) := rfl
  obtain ⟨b1, b2⟩ := b
  refine ⟨⟨?_, ?_⟩, ?_, ?_⟩ <;> grind
theorem lsum_perm {l r : List Rat} (h : l.Perm r) : lsum l = lsum r := by
  induction h with
  | nil => rfl
  | cons x _ ih => show x + _ = x + _; rw [ih]
  | swap x y l => show y + (x + lsum l) = x + (y + lsum l); grind
  | trans _ _ a b => exact a.trans b
theorem dueG_perm {l r : List Rat} (h : l.Perm r) : dueG l = dueG r := by
  unfold dueG barL
  rw [lsum_perm (h.map _)]
  by_cases a : 1 ∈ l
  · rw [if_pos a, if_pos (h.mem_iff.mp a)]
  · rw [if_neg a, if_neg (fun z => a (h.mem_iff.mpr z))]
end Ef
namespace Ef
/-! ### walls told from what is heard -/
/-- nothing is ahead of its time -/
theorem cone (n : Nat) (W : Nat → Rat) : ∀ t c, (t < c → goR n W t c = 0) ∧ (t ≤ c → goL n W t c = 0)
  | 0, c => by
    refine ⟨fun h => ?_, fun _ => rfl⟩
    show (if c = 0 then (1 : Rat) else 0) = 0
    rw [if_neg (by omega)]
  | t + 1, c => by
    refine ⟨fun h => ?_, fun h => ?_⟩
    · show nR W (goR n W t) (goL n W t) c = 0
      unfold nR
      rw [if_neg (by omega), (cone n W t (c - 1)).1 (by omega), (cone n W t c).2 (by omega)]
      grind
    · show nL n W (goR n W t) (goL n W t) c = 0
      unfold nL
      split
      · rw [(cone n W t c).1 (by omega), (cone n W t (c + 1)).2 (by omega)]
        grind
      · rfl
theorem goR_succ (n : Nat) (W : Nat → Rat) (t c : Nat) : goR n W (t + 1) (c + 1) = goR n W t c * (1 - W c) + goL n W t (c + 1) * W c := by
  show nR W (goR n W t) (goL n W t) (c + 1) = _
  unfold nR
  rw [if_neg (by omega), Nat.add_sub_cancel]
theorem goR_zero (n : Nat) (W : Nat → Rat) (t : Nat) : goR n W (t + 1) 0 = 0 := rfl
theorem goL_succ {n : Nat} (W : Nat → Rat) (t : Nat) {c : Nat} (h : c < n) : goL n W (t + 1) c = goR n W t c * W c + goL n W t (c + 1) * (1 - W c) := by
  show nL n W (goR n W t) (goL n W t) c = _
  unfold nL
  rw [if_pos h]
theorem goL_end (n : Nat) (W : Nat → Rat) (t : Nat) : goL n W t n = 0 := by
  cases t with
  | zero => rfl
  | succ t =>
    show nL n W (goR n W t) (goL n W t) n = 0
    unfold nL
    rw [if_neg (by omega)]
theorem goR_0 (n : Nat) (W : Nat → Rat) (c : Nat) : goR n W 0 c = if c = 0 then 1 else 0 := rfl
theorem goL_0 (n : Nat) (W : Nat → Rat) (c : Nat) : goL n W 0 c = 0 := rfl
/-- where the same is ahead, the same is heard: till the sound of wall j comes -/
theorem agree {j n : Nat} {W V : Nat → Rat} (hj : j ≤ n) (e : ∀ i, i < j → V i = W i) : ∀ t c, c ≤ j → (t + c ≤ 2 * j + 1 → goR n W t c = goR j V t c) ∧ (t + c ≤ 2 * j → goL n W t c = goL j V t c)
  | 0, c, _ => ⟨fun _ => (goR_0 n W c).trans (goR_0 j V c).symm, fun _ => (goL_0 n W c).trans (goL_0 j V c).symm⟩
  | t + 1, c, hc => by
    refine ⟨fun h => ?_, fun h => ?_⟩
    · cases c with
      | zero => exact (goR_zero n W t).trans (goR_zero j V t).symm
      | succ c =>
        rw [goR_succ, goR_succ, (agree hj e t c (by omega)).1 (by omega), (agree hj e t (c + 1) hc).2 (by omega), e c (by omega)]
    · by_cases hcj : c < j
      · rw [goL_succ W t (by omega : c < n), goL_succ V t hcj, (agree hj e t c hc).1 (by omega), (agree hj e t (c + 1) (by omega)).2 (by omega), e c hcj]
      · have ec : c = j := by omega
        subst ec
        rw [goL_end, (cone n W (t + 1) c).2 (by omega)]
/-- what comes through the walls ahead of j -/
def thru (W : Nat → Rat) : Nat → Rat
  | 0 => 1
  | j + 1 => thru W j * (1 - W j)
/-- what comes back through walls c .. j - 1, from cell j -/
theorem goR_front (n : Nat) (W : Nat → Rat) : ∀ j, goR n W j j = thru W j
  | 0 => rfl
  | j + 1 => by
    rw [goR_succ, goR_front n W j, (cone n W j (j + 1)).2 (by omega)]
    show thru W j * (1 - W j) + 0 * W j = thru W j * (1 - W j)
    grind
/-- the first sound of wall j -/
theorem first {j n : Nat} {W V : Nat → Rat} (hj : j < n) (e : ∀ i, i < j → V i = W i) : ∀ d c, c + d = j → ∃ x, goL n W (j + 1 + d) c = goL j V (j + 1 + d) c + thru W j * W j * x ∧ thru W c * x = thru W j
  | 0, c, hc => by
    have ec : c = j := by omega
    subst ec
    refine ⟨1, ?_, by grind⟩
    rw [goL_end, goL_succ W _ hj, goR_front, (cone n W c (c + 1)).2 (by omega)]
    grind
  | d + 1, c, hc => by
    obtain ⟨x, h1, h2⟩ := first hj e d (c + 1) (by omega)
    refine ⟨x * (1 - W c), ?_, ?_⟩
    · rw [← Nat.add_assoc, goL_succ W _ (by omega : c < n), goL_succ V _ (by omega : c < j), h1, (agree (Nat.le_of_lt hj) e (j + 1 + d) c (by omega)).1 (by omega), e c (by omega)]
      grind
    · have h3 : thru W (c + 1) = thru W c * (1 - W c) := rfl
      rw [h3] at h2
      grind
theorem heard_first {j n : Nat} {W V : Nat → Rat} (hj : j < n) (e : ∀ i, i < j → V i = W i) : goL n W (2 * j + 1) 0 = goL j V (2 * j + 1) 0 + thru W j * thru W j * W j := by
  obtain ⟨x, h1, h2⟩ := first hj e j 0 (by omega)
  have h3 : thru W 0 = 1 := rfl
  have e2 : j + 1 + j = 2 * j + 1 := by omega
  rw [e2] at h1
  rw [h3] at h2
  rw [h1]
  grind
/-- nothing comes from behind a wall that returns all -/
theorem shut {n a : Nat} {W V : Nat → Rat} (ha : a < n) (e : ∀ i, i ≤ a → V i = W i) (h1 : W a = 1) : ∀ t c, c ≤ a → goR n W t c = goR n V t c ∧ goL n W t c = goL n V t c
  | 0, c, _ => ⟨(goR_0 n W c).trans (goR_0 n V c).symm, (goL_0 n W c).trans (goL_0 n V c).symm⟩
  | t + 1, c, hc => by
    refine ⟨?_, ?_⟩
    · cases c with
      | zero => exact (goR_zero n W t).trans (goR_zero n V t).symm
      | succ c => rw [goR_succ, goR_succ, (shut ha e h1 t c (by omega)).1, (shut ha e h1 t (c + 1) hc).2, e c (by omega)]
    · rw [goL_succ W t (by omega : c < n), goL_succ V t (by omega : c < n), (shut ha e h1 t c hc).1, e c hc]
      by_cases ec : c = a
      · subst ec
        rw [h1]
        grind
      · rw [(shut ha e h1 t (c + 1) (by omega)).2]
/-- the walls up to the first one that returns all, noughts behind it -/
def cutOne : List Rat → List Rat
  | [] => []
  | w :: ws => if w = 1 then 1 :: List.replicate ws.length 0 else w :: cutOne ws
theorem cutOne_len : ∀ ws, (cutOne ws).length = ws.length
  | [] => rfl
  | w :: ws => by
    unfold cutOne
    split
    · rw [List.length_cons, List.length_cons, List.length_replicate]
    · rw [List.length_cons, List.length_cons, cutOne_len ws]
theorem cutOne_no : ∀ {ws : List Rat}, 1 ∉ ws → cutOne ws = ws
  | [], _ => rfl
  | w :: ws, h => by
    have hw : w ≠ 1 := fun z => h (by rw [z]; exact List.mem_cons_self)
    unfold cutOne
    rw [if_neg hw, cutOne_no (fun z => h (List.mem_cons_of_mem _ z))]
theorem cutOne_mem : ∀ {ws : List Rat} {q : Rat}, q ∈ cutOne ws → q ∈ ws ∨ q = 0
  | [], _, h => .inl h
  | w :: ws, q, h => by
    unfold cutOne at h
    split at h
    · rename_i hw
      rcases List.mem_cons.mp h with h | h
      · exact .inl (by rw [h, hw]; exact List.mem_cons_self)
      · exact .inr (List.mem_replicate.mp h).2
    · rcases List.mem_cons.mp h with h | h
      · exact .inl (by rw [h]; exact List.mem_cons_self)
      · rcases cutOne_mem h with h | h
        · exact .inl (List.mem_cons_of_mem _ h)
        · exact .inr h
theorem cutOne_at : ∀ {ws : List Rat} {a : Nat}, (∀ i, i < a → ws[i]? ≠ some 1) → ws[a]? = some 1 → cutOne ws = ws.take (a + 1) ++ List.replicate (ws.length - a - 1) 0
  | [], a, _, h => by simp at h
  | w :: ws, 0, _, h => by
    have e : w = 1 := Option.some.inj h
    unfold cutOne
    rw [if_pos e, e]
    rfl
  | w :: ws, a + 1, h0, h => by
    have e : w ≠ 1 := fun z => h0 0 (by omega) (by rw [z]; rfl)
    unfold cutOne
    rw [if_neg e, cutOne_at (ws := ws) (a := a) (fun i hi => h0 (i + 1) (by omega)) h]
    show _ = w :: ws.take (a + 1) ++ _
    have e2 : (w :: ws).length - (a + 1) - 1 = ws.length - a - 1 := by rw [List.length_cons]; omega
    rw [e2]
    rfl
theorem first_one : ∀ (ws : List Rat), 1 ∉ ws ∨ ∃ a, a < ws.length ∧ (∀ i, i < a → ws[i]? ≠ some 1) ∧ ws[a]? = some 1
  | [] => .inl (by simp)
  | w :: ws => by
    by_cases e : w = 1
    · exact .inr ⟨0, by rw [List.length_cons]; omega, fun i hi => by omega, by rw [e]; rfl⟩
    · rcases first_one ws with h | ⟨a, ha, h0, h1⟩
      · exact .inl fun z => (List.mem_cons.mp z).elim (fun q => e q.symm) h
      · refine .inr ⟨a + 1, by rw [List.length_cons]; omega, fun i hi => ?_, h1⟩
        cases i with
        | zero => exact fun z => e (Option.some.inj z)
        | succ i => exact h0 i (by omega)
theorem ears_cut (ws : List Rat) (m : Nat) : ears (cutOne ws).length (at0 (cutOne ws)) m = ears ws.length (at0 ws) m := by
  rw [cutOne_len]
  rcases first_one ws with h | ⟨a, ha, h0, h1⟩
  · rw [cutOne_no h]
  · have e1 : at0 ws a = 1 := by
      have := at0_get ha
      rw [h1] at this
      exact (Option.some.inj this).symm
    unfold ears
    refine List.map_congr_left fun t _ => ((shut ha (fun i hi => ?_) e1 t 0 (Nat.zero_le _)).2).symm
    rw [cutOne_at h0 h1]
    unfold at0
    rw [List.getD_eq_getElem?_getD, List.getD_eq_getElem?_getD, List.getElem?_append_left (by rw [List.length_take]; omega), List.getElem?_take, if_pos (by omega)]
/-- behind a wall that returns all stands nought -/
theorem cutOne_zero : ∀ (ws : List Rat) (i j : Nat), i < j → at0 (cutOne ws) i = 1 → at0 (cutOne ws) j = 0
  | [], i, j, _, _ => rfl
  | w :: ws, i, j, hij, h => by
    obtain ⟨j, rfl⟩ : ∃ k, j = k + 1 := ⟨j - 1, by omega⟩
    by_cases hw : w = 1
    · unfold cutOne
      rw [if_pos hw]
      show at0 (List.replicate ws.length 0) j = 0
      unfold at0
      rw [List.getD_eq_getElem?_getD, List.getElem?_replicate]
      split <;> rfl
    · unfold cutOne at h ⊢
      rw [if_neg hw] at h ⊢
      show at0 (cutOne ws) j = 0
      cases i with
      | zero => exact absurd h hw
      | succ i => exact cutOne_zero ws i j (by omega) h
theorem thru_zero {W : Nat → Rat} : ∀ {j : Nat}, thru W j = 0 → ∃ i, i < j ∧ W i = 1
  | 0, h => by
    have : (1 : Rat) = 0 := h
    simp at this
  | j + 1, h => by
    have e : thru W j * (1 - W j) = 0 := h
    rcases Rat.mul_eq_zero.mp e with h | h
    · obtain ⟨i, hi, e⟩ := thru_zero h
      exact ⟨i, by omega, e⟩
    · exact ⟨j, by omega, by grind⟩
theorem thru_in {W : Nat → Rat} : ∀ {j : Nat}, (∀ k, k < j → In01 (W k)) → In01 (thru W j)
  | 0, _ => in01_one
  | j + 1, h => (thru_in (j := j) fun k hk => h k (by omega)).mul (h j (by omega)).co
theorem thru_isD {D : Nat} {W : Nat → Rat} : ∀ {j : Nat}, (∀ k, k < j → IsD D (W k)) → IsD (D ^ j) (thru W j)
  | 0, _ => IsD.one _
  | j + 1, h => (thru_isD (j := j) fun k hk => h k (by omega)).mul ((IsD.one D).sub (h j (by omega)))
theorem thru_congr {W V : Nat → Rat} : ∀ {j : Nat}, (∀ k, k < j → V k = W k) → thru V j = thru W j
  | 0, _ => rfl
  | j + 1, h => by
    show thru V j * (1 - V j) = thru W j * (1 - W j)
    rw [thru_congr (j := j) (fun k hk => h k (by omega)), h j (by omega)]
theorem at0_take {ws : List Rat} {j i : Nat} (h : i < j) : at0 (ws.take j) i = at0 ws i := by
  unfold at0
  rw [List.getD_eq_getElem?_getD, List.getD_eq_getElem?_getD, List.getElem?_take, if_pos h]
end Ef
namespace Ef
/-! ### sizes by bits -/
def Bd (n : Nat) (q : Rat) : Prop := q.num.natAbs < 2 ^ n ∧ q.den < 2 ^ n
theorem Bd.mono {a b : Nat} {q : Rat} (h : Bd a q) (l : a ≤ b) : Bd b q := ⟨Nat.lt_of_lt_of_le h.1 (Nat.pow_le_pow_right (by decide) l), Nat.lt_of_lt_of_le h.2 (Nat.pow_le_pow_right (by decide) l)⟩
theorem Bd.sm {n : Nat} {q : Rat} (h : Bd n q) (l : n ≤ 4500) : Sm q := h.mono l
theorem bd_mk {n : Nat} {t : Int} {b : Nat} (hb : b ≠ 0) (h1 : t.natAbs < 2 ^ n) (h2 : b < 2 ^ n) : Bd n (mkRat t b) :=
  ⟨Nat.lt_of_le_of_lt (mk_num_le hb) h1, Nat.lt_of_le_of_lt (mk_den_le hb) h2⟩
theorem mul_lt_pow {x y a b : Nat} (hx : x < 2 ^ a) (hy : y < 2 ^ b) : x * y < 2 ^ (a + b) := by
  rw [Nat.pow_add]
  exact Nat.mul_lt_mul'' hx hy
theorem Bd.add {a b : Nat} {p q : Rat} (hp : Bd a p) (hq : Bd b q) : Bd (a + b + 1) (p + q) := by
  rw [← sum_mk]
  have d : p.den * q.den < 2 ^ (a + b) := mul_lt_pow hp.2 hq.2
  have e : (2 : Nat) ^ (a + b + 1) = 2 ^ (a + b) * 2 := Nat.pow_succ ..
  refine bd_mk (Nat.mul_ne_zero p.den_nz q.den_nz) ?_ (by omega)
  have x : (p.num * (q.den : Int)).natAbs < 2 ^ (a + b) := by
    rw [Int.natAbs_mul, Int.natAbs_natCast]
    exact mul_lt_pow hp.1 hq.2
  have y : (q.num * (p.den : Int)).natAbs < 2 ^ (a + b) := by
    rw [Int.natAbs_mul, Int.natAbs_natCast, Nat.add_comm]
    exact mul_lt_pow hq.1 hp.2
  omega
theorem Bd.neg {a : Nat} {p : Rat} (hp : Bd a p) : Bd a (-p) := ⟨by rw [Rat.neg_num, Int.natAbs_neg]; exact hp.1, hp.2⟩
theorem Bd.sub {a b : Nat} {p q : Rat} (hp : Bd a p) (hq : Bd b q) : Bd (a + b + 1) (p - q) := by
  rw [Rat.sub_eq_add_neg]
  exact hp.add hq.neg
theorem Bd.mul {a b : Nat} {p q : Rat} (hp : Bd a p) (hq : Bd b q) : Bd (a + b) (p * q) := by
  rw [← mul_mk]
  refine bd_mk (Nat.mul_ne_zero p.den_nz q.den_nz) ?_ (mul_lt_pow hp.2 hq.2)
  rw [Int.natAbs_mul]
  exact mul_lt_pow hp.1 hq.1
theorem Bd.div {a b : Nat} {p q : Rat} (hp : Bd a p) (hq : Bd b q) (h0 : q ≠ 0) : Bd (a + b) (p / q) := by
  rw [← over_mk]
  have z : q.num ≠ 0 := fun e => h0 (Rat.num_eq_zero.mp e)
  have g : ∀ (t b' : Int), b' ≠ 0 → ∃ (t' : Int) (n : Nat), Rat.divInt t b' = mkRat t' n ∧ t'.natAbs = t.natAbs ∧ n = b'.natAbs := by
    intro t b' hb
    rcases Int.lt_or_gt_of_ne hb with h | h
    · refine ⟨0 - t, (0 - b').toNat, ?_, by omega, by omega⟩
      rw [divInt_neg h, divInt_pos (by omega)]
    · exact ⟨t, b'.toNat, divInt_pos h, rfl, by omega⟩
  have nz : (p.den : Int) * q.num ≠ 0 := fun e => (Int.mul_eq_zero.mp e).elim (Int.ne_of_gt (den_posI p)) z
  obtain ⟨t, n, e, e1, e2⟩ := g (p.num * q.den) (p.den * q.num) nz
  rw [e]
  refine bd_mk (by omega) ?_ ?_
  · rw [e1, Int.natAbs_mul, Int.natAbs_natCast]
    exact mul_lt_pow hp.1 hq.2
  · rw [e2, Int.natAbs_mul, Int.natAbs_natCast]
    exact mul_lt_pow hp.2 hq.1
theorem bd_one : Bd 1 1 := ⟨by decide, by decide⟩
theorem bd_zero : Bd 1 0 := ⟨by decide, by decide⟩
theorem bd_of {D n : Nat} {q : Rat} (hD : 0 < D) (hl : D < 2 ^ n) (h : IsD D q) (h0 : -1 ≤ q) (h1 : q ≤ 1) : Bd n q :=
  ⟨Nat.lt_of_le_of_lt (h.num hD h0 h1) hl, Nat.lt_of_le_of_lt (h.den hD) hl⟩
/-- a part against the rest -/
theorem bd_ratio {n : Nat} {w : Rat} (h : Bd n w) (h1 : w ≠ 1) : Bd (n + (1 + n + 1)) (w / (1 - w)) := h.div (bd_one.sub h) (by grind)
theorem barL_push (ws : List Rat) (w : Rat) : barL (ws ++ [w]) = barL ws + w / (1 - w) := by
  unfold barL
  rw [List.map_append]
  show 1 + lsum (ws.map (fun w => w / (1 - w)) ++ [w / (1 - w)]) = _
  rw [lsum_push]
  grind
theorem bd_bar {n : Nat} : ∀ (k : Nat) (ws : List Rat), (∀ q ∈ ws, Bd n q ∧ q ≠ 1) → k ≤ ws.length → Bd (1 + k * (2 * n + 3)) (barL (ws.take k))
  | 0, ws, _, _ => by
    show Bd (1 + 0 * (2 * n + 3)) (1 + 0)
    have e : (1 : Rat) + 0 = 1 := by grind
    rw [e, Nat.zero_mul]
    exact bd_one
  | k + 1, ws, h, hk => by
    have ih := bd_bar k ws h (by omega)
    have hm := h ws[k] (List.getElem_mem (by omega))
    rw [List.take_succ, List.getElem?_eq_getElem (by omega)]
    show Bd _ (barL (ws.take k ++ [ws[k]]))
    rw [barL_push]
    refine (ih.add (bd_ratio hm.1 hm.2)).mono ?_
    rw [Nat.add_mul]
    omega
theorem ratio_mk {w : Rat} (h : In01 w) (h1 : w ≠ 1) : ∃ b : Nat, (w.den : Int) - w.num = (b : Int) ∧ b ≠ 0 ∧ b ≤ w.den ∧ mkRat w.num b = w / (1 - w) := by
  have u := unit_in h
  have ne : (w.den : Int) ≠ w.num := fun e => h1 (by
    have d1 : w.num.natAbs.Coprime w.den := w.reduced
    have d2 : w.num.natAbs = w.den := by omega
    rw [d2] at d1
    have d3 : w.den = 1 := (Nat.coprime_self _).mp d1
    have e3 : w.num = 1 := by omega
    exact Rat.ext e3 d3)
  refine ⟨(w.den - w.num).toNat, by omega, by omega, by omega, ?_⟩
  have nz : (1 - w) ≠ 0 := by grind
  have hd := nz_cast (den_pos w)
  have e2 : w * (w.den : Rat) = w.num := by
    have q : w = (w.num : Rat) / (w.den : Rat) := by
      rw [← Rat.mkRat_eq_div, Rat.mkRat_self]
    have r : (w.num : Rat) / (w.den : Rat) * (w.den : Rat) = w.num := Rat.div_mul_cancel hd
    rwa [← q] at r
  rw [Rat.mkRat_eq_div]
  have e4 : ((((w.den : Int) - w.num).toNat : Nat) : Rat) = (w.den : Rat) - (w.num : Rat) := by
    have a : ((((w.den : Int) - w.num).toNat : Nat) : Rat) = (((((w.den : Int) - w.num).toNat : Nat) : Int) : Rat) := rfl
    rw [a, show ((((w.den : Int) - w.num).toNat : Nat) : Int) = (w.den : Int) - w.num by omega, Rat.intCast_sub]
    rfl
  rw [e4]
  have k1 : (w.den : Rat) - (w.num : Rat) = (w.den : Rat) * (1 - w) := by rw [← e2]; grind
  have nz2 : (w.den : Rat) - (w.num : Rat) ≠ 0 := by
    rw [k1]
    intro z
    exact (Rat.mul_eq_zero.mp z).elim hd nz
  have a : (w.num : Rat) / ((w.den : Rat) - (w.num : Rat)) * ((w.den : Rat) - (w.num : Rat)) = w.num := Rat.div_mul_cancel nz2
  have b : w / (1 - w) * (1 - w) = w := Rat.div_mul_cancel nz
  generalize (w.num : Rat) / ((w.den : Rat) - (w.num : Rat)) = x at a ⊢
  generalize w / (1 - w) = y at b ⊢
  have c : (x - y) * ((w.den : Rat) - (w.num : Rat)) = 0 := by
    rw [k1] at a ⊢
    grind
  rcases Rat.mul_eq_zero.mp c with z | z
  · grind
  · exact absurd z nz2
/-- turned over -/
theorem inv_mk {q : Rat} (h : 0 < q) : ∃ b : Nat, q.num = (b : Int) ∧ b ≠ 0 ∧ mkRat (q.den : Int) b = 1 / q := by
  have p : 0 < q.num := by
    have := (Rat.lt_iff 0 q).mp h
    simpa using this
  refine ⟨q.num.toNat, by omega, by omega, ?_⟩
  rw [← divInt_pos p]
  have e := over_mk 1 q
  have e1 : (1 : Rat).num = 1 := rfl
  have e2 : (1 : Rat).den = 1 := rfl
  rw [e1, e2] at e
  rw [← e]
  simp
theorem no_one {ws : List Rat} {i : Nat} (hn : ∀ j, j < i → ws[j]? ≠ some 1) : ∀ q ∈ ws.take i, q ≠ 1 := by
  intro q hq e
  obtain ⟨j, hj, ej⟩ := List.mem_iff_getElem.mp hq
  have hj2 : j < i := by
    rw [List.length_take] at hj
    omega
  refine hn j hj2 ?_
  have g := List.getElem?_eq_getElem hj
  rw [List.getElem?_take, if_pos hj2, ej, e] at g
  exact g
theorem bd_barT {ws : List Rat} (h : ∀ q ∈ ws, Bd 41 q) (h8 : ws.length ≤ 8) {i : Nat} (hi : i ≤ ws.length) (hn : ∀ j, j < i → ws[j]? ≠ some 1) : Bd 700 (barL (ws.take i)) := by
  have a := bd_bar (n := 41) i (ws.take i) (fun q hq => ⟨h q (List.mem_of_mem_take hq), no_one hn q hq⟩) (by rw [List.length_take]; omega)
  rw [List.take_take, Nat.min_self] at a
  refine a.mono ?_
  omega
theorem barL_ge : ∀ {ws : List Rat}, (∀ q ∈ ws, In01 q ∧ q ≠ 1) → 1 ≤ barL ws
  | [], _ => by
    show (1 : Rat) ≤ 1 + 0
    grind
  | w :: ws, h => by
    have ih := barL_ge (ws := ws) fun q hq => h q (List.mem_cons_of_mem _ hq)
    have a := ratio_nn (h w List.mem_cons_self).1 (h w List.mem_cons_self).2
    have e : barL (w :: ws) = barL ws + w / (1 - w) := by
      unfold barL
      show 1 + (w / (1 - w) + lsum (ws.map fun w => w / (1 - w))) = _
      grind
    rw [e]
    grind
theorem dueG_yes {ws : List Rat} (h : 1 ∈ ws) : dueG ws = 0 := if_pos h
theorem dueG_no {ws : List Rat} (hn : ∀ j, j < ws.length → ws[j]? ≠ some 1) : dueG ws = 1 / barL ws := by
  have h : 1 ∉ ws := fun z => by
    have := no_one hn 1
    rw [List.take_length] at this
    exact this z rfl
  exact if_neg h
theorem dueG_in {ws : List Rat} (h : ∀ q ∈ ws, In01 q) : In01 (dueG ws) := by
  obtain ⟨u, v, H, e⟩ := harm_of (D := 1) h
  rw [← e]
  exact H.ru 0 (Nat.zero_le _)
theorem bd_due {ws : List Rat} (h : ∀ q ∈ ws, In01 q ∧ Bd 41 q) (h8 : ws.length ≤ 8) : Bd 701 (dueG ws) := by
  by_cases c : 1 ∈ ws
  · rw [dueG_yes c]
    exact bd_zero.mono (by omega)
  · have hn : ∀ j, j < ws.length → ws[j]? ≠ some 1 := fun j hj e => c (List.mem_of_getElem? e)
    rw [dueG_no hn]
    have b := bd_barT (fun q hq => (h q hq).2) h8 (Nat.le_refl _) hn
    rw [List.take_length] at b
    have g := barL_ge (ws := ws) fun q hq => ⟨(h q hq).1, fun e => c (e ▸ hq)⟩
    exact (bd_one.div b (by grind)).mono (by omega)
end Ef
namespace Ef
open PySem PySem.Spec PyProof.Rows L2
/-! ### promises -/
/-- what is heard, lost in all -/
def spInAll (K : PySem.W.Frag) : Sp := fun vs H Q _ => ∃ (f l : Addr) (ws : List Rat), vs = [.ref f] ∧ FieldAt K H f l ws ∧ ws.length ≤ 8 ∧ (∀ q ∈ ws, In01 q ∧ Bd 41 q) ∧
  ∀ (p : Addr) (u v : V) (H' : Hp), Same H H' → H' p = some (.tup [u, v]) → RatAt K H' u (1 - dueG ws) → RatAt K H' v (dueG ws) → Q (.ref p) H'
def spDue (K : PySem.W.Frag) : Sp := fun vs H Q _ => ∃ (l : Addr) (ws : List Rat), vs = [.ref l] ∧ RL K H l ws ∧ ws.length ≤ 8 ∧ (∀ q ∈ ws, In01 q ∧ Bd 41 q) ∧
  ∀ (p : Addr) (u v : V) (H' : Hp), Same H H' → H' p = some (.tup [u, v]) → RatAt K H' u (1 - dueG ws) → RatAt K H' v (dueG ws) → Q (.ref p) H'
def spTotal (K : PySem.W.Frag) : Sp := fun vs H Q _ => ∃ (l : Addr) (qs : List Rat), vs = [.ref l] ∧ RL K H l qs ∧ (∀ i, i ≤ qs.length → Sm (lsum (qs.take i))) ∧ (∀ q ∈ qs, Sm q) ∧
  ∀ (v : V) (H' : Hp), Same H H' → RatAt K H' v (lsum qs) → Q v H'
theorem OneL.mid {D : Nat} {s l t : List Rat} (h : OneL D (s ++ (l ++ t))) : OneL D l := by
  have n1 := lsum_nonneg (l := s) fun p hp => h.nn p (List.mem_append_left _ hp)
  have n2 := lsum_nonneg (l := t) fun p hp => h.nn p (List.mem_append_right _ (List.mem_append_right _ hp))
  have e := h.le
  rw [lsum_app, lsum_app] at e
  exact ⟨h.dp, h.dl, fun q hq => h.nn q (List.mem_append_right _ (List.mem_append_left _ hq)), fun q hq => h.d q (List.mem_append_right _ (List.mem_append_left _ hq)), by grind⟩
theorem OneL.upto {D : Nat} {l : List Rat} (h : OneL D l) (i : Nat) : Sm (lsum (l.take i)) := by
  rw [← List.take_append_drop i l] at h
  exact h.pre
theorem OneL.bd {D n : Nat} {l : List Rat} (h : OneL D l) (hn : D < 2 ^ n) : Bd n (lsum l) := by
  have a := lsum_nonneg h.nn
  have b := h.le
  exact bd_of h.dp hn (lsum_isD h.d) (by grind) b
theorem Rats.erase {K : PySem.W.Frag} {H : Hp} {xs : List V} {qs : List Rat} (h : Rats K H xs qs) (k : Nat) : Rats K H (xs.eraseIdx k) (qs.eraseIdx k) := by
  refine ⟨by rw [List.length_eraseIdx, List.length_eraseIdx, h.1], fun i v q a b => ?_⟩
  rw [List.getElem?_eraseIdx] at a b
  by_cases c : i < k
  · rw [if_pos c] at a b
    exact h.2 i v q a b
  · rw [if_neg c] at a b
    exact h.2 (i + 1) v q a b
theorem perm_pop {l r ws : List Rat} {k : Nat} {q : Rat} (h : (r ++ l).Perm ws) (e : l[k]? = some q) : ((r ++ [q]) ++ l.eraseIdx k).Perm ws := by
  obtain ⟨hk, ek⟩ := List.getElem?_eq_some_iff.mp e
  refine List.Perm.trans ?_ h
  rw [List.append_assoc]
  refine List.Perm.append_left r ?_
  have e2 : l = l.take k ++ q :: l.drop (k + 1) := by
    rw [← ek, ← List.drop_eq_getElem_cons hk, List.take_append_drop]
  have e3 : l.eraseIdx k = l.take k ++ l.drop (k + 1) := List.eraseIdx_eq_take_drop_succ ..
  rw [e3]
  have e4 : (q :: (l.take k ++ l.drop (k + 1))).Perm l := by
    conv => rhs; rw [e2]
    exact List.perm_middle.symm
  exact e4
def dPair (p q : Rat) : PyData := .tuple [dRat p, dRat q]
theorem pair_dp {K : PySem.W.Frag} {H : Hp} {t : Addr} {u v : V} {p q : Rat} (e : H t = some (.tup [u, v])) (hu : RatAt K H u p) (hv : RatAt K H v q) : Dp K H (.ref t) (dPair p q) := .tup (SqT.of e) (.cons hu.dp (.cons hv.dp .nil))
theorem eqv_pair (p q : Rat) : PyData.eqv (dPair p q) (dPair p q) = true := by
  show (PyData.eqv (dRat p) (dRat p) && (PyData.eqv (dRat q) (dRat q) && true)) = true
  rw [eqv_rat, eqv_rat, decide_eq_true rfl, decide_eq_true rfl]
  rfl
theorem sh_pair (p q : Rat) : SeqAt.shaped (dPair p q) = true := by rfl
theorem great_pow {b m : Nat} {g : Bool} (hb : b ≤ 10 ^ 12) (h1 : g = false → b = 1) (h2 : g = true → m ≤ 2) (h3 : m ≤ 40) : (60 * b) ^ m < 2 ^ 300 := by
  cases g with
  | true =>
    have a : (60 * b) ^ m ≤ (60 * 10 ^ 12 + 1) ^ m := Nat.pow_le_pow_left (by omega) m
    have c : (60 * 10 ^ 12 + 1) ^ m ≤ (60 * 10 ^ 12 + 1) ^ 2 := Nat.pow_le_pow_right (by decide) (h2 rfl)
    have d : (60 * 10 ^ 12 + 1) ^ 2 < 2 ^ 300 := by decide
    exact Nat.lt_of_le_of_lt (Nat.le_trans a c) d
  | false =>
    rw [h1 rfl, Nat.mul_one]
    have a : 60 ^ m ≤ 60 ^ 40 := Nat.pow_le_pow_right (by decide) h3
    have d : 60 ^ 40 < 2 ^ 300 := by decide
    exact Nat.lt_of_le_of_lt a d
theorem seq_at {z : Int} {i n : Nat} (e : z = (i : Int)) (h : i < n) : seqIndex? z n = some i := by
  subst e
  unfold seqIndex?
  have h0 : ¬ ((i : Int) < 0) := by omega
  have h1 : (decide (0 ≤ (i : Int)) && decide ((i : Int) < (n : Int))) = true := by
    rw [decide_eq_true (by omega), decide_eq_true (by omega)]
    rfl
  simp only [if_neg h0, h1, if_true, Int.toNat_natCast]
end Ef
namespace Ef
/-! ### walls told by a record -/
def knownOf (ws : List Rat) : Rat := goL ws.length (at0 ws) (2 * ws.length + 1) 0
def thruOf (ws : List Rat) : Rat := thru (at0 ws) ws.length * thru (at0 ws) ws.length
def partOf (ws : List Rat) (r : Rat) : Rat := (r - knownOf ws) / thruOf ws
instance (q : Rat) : Decidable (In01 q) := inferInstanceAs (Decidable (0 ≤ q ∧ q ≤ 1))
def nextP (ws : List Rat) (r : Rat) : Option Rat := if thruOf ws = 0 then some 0 else if In01 (partOf ws r) then some (partOf ws r) else none
/-- where walls found one by one end -/
def toldGo (rs : List Rat) : Nat → List Rat → Option (List Rat)
  | 0, ws => if ears ws.length (at0 ws) rs.length = rs then some ws else none
  | n + 1, ws => match nextP ws (at0 rs (2 * ws.length + 1)) with
    | none => none
    | some q => toldGo rs n (ws ++ [q])
def told (rs : List Rat) : Option (List Rat) := toldGo rs (rs.length / 2) []
theorem toldGo_some {rs ws : List Rat} {n : Nat} {q : Rat} (h : nextP ws (at0 rs (2 * ws.length + 1)) = some q) : toldGo rs (n + 1) ws = toldGo rs n (ws ++ [q]) := by
  show (match nextP ws (at0 rs (2 * ws.length + 1)) with
    | none => none
    | some q => toldGo rs n (ws ++ [q])) = _
  rw [h]
theorem toldGo_none {rs ws : List Rat} {n : Nat} (h : nextP ws (at0 rs (2 * ws.length + 1)) = none) : toldGo rs (n + 1) ws = none := by
  show (match nextP ws (at0 rs (2 * ws.length + 1)) with
    | none => none
    | some q => toldGo rs n (ws ++ [q])) = _
  rw [h]
theorem toldGo_end {rs ws : List Rat} : toldGo rs 0 ws = if ears ws.length (at0 ws) rs.length = rs then some ws else none := rfl
inductive Reach (rs : List Rat) : List Rat → Prop
  | nil : Reach rs []
  | step {ws : List Rat} {q : Rat} : Reach rs ws → 2 * ws.length + 1 < rs.length → nextP ws (at0 rs (2 * ws.length + 1)) = some q → Reach rs (ws ++ [q])
theorem nextP_in {ws : List Rat} {r q : Rat} (h : nextP ws r = some q) : In01 q := by
  unfold nextP at h
  split at h
  · cases h
    exact in01_zero
  · split at h
    · cases h
      assumption
    · cases h
theorem Reach.all_in {rs ws : List Rat} (h : Reach rs ws) : ∀ q ∈ ws, In01 q := by
  induction h with
  | nil => intro q hq; cases hq
  | step _ _ e ih =>
    intro q hq
    rcases List.mem_append.mp hq with hq | hq
    · exact ih q hq
    · rw [List.mem_singleton.mp hq]
      exact nextP_in e
theorem Reach.len {rs ws : List Rat} (h : Reach rs ws) : 2 * ws.length ≤ rs.length := by
  induction h with
  | nil => exact Nat.zero_le _
  | step _ l _ _ => rw [List.length_append, List.length_singleton]; omega
/-- what the reckoning of the next wall needs -/
structure NextOk (ws : List Rat) (r : Rat) : Prop where
  run : RunOk ws.length (at0 ws) (2 * ws.length + 2)
  w1 : ∀ q ∈ ws, Sm q ∧ Sm (1 - q) ∧ Sm ((1 - q) * (1 - q))
  th : ∀ i, i ≤ ws.length → Sm (thru (at0 ws) i * thru (at0 ws) i)
  kn : Sm (knownOf ws)
  df : Sm (r - knownOf ws)
structure ToldOk (rs : List Rat) : Prop where
  sm : ∀ q ∈ rs, Sm q
  nx : ∀ ws, Reach rs ws → 2 * ws.length + 1 < rs.length → NextOk ws (at0 rs (2 * ws.length + 1))
  rn : ∀ ws, Reach rs ws → 2 * ws.length = rs.length → RunOk ws.length (at0 ws) rs.length
/-! the record of a field that is cut at its first wall that returns all -/
theorem ears_at (n : Nat) (W : Nat → Rat) {k m : Nat} (h : k < m) : at0 (ears n W m) k = goL n W k 0 := by
  unfold at0
  rw [List.getD_eq_getElem?_getD, ears_get n W h]
  rfl
theorem next_due {ds : List Rat} (hz : ∀ i j, i < j → at0 ds i = 1 → at0 ds j = 0) (hi : ∀ q ∈ ds, In01 q) {j m : Nat} (hj : j < ds.length) (hm : 2 * j + 1 < m) : nextP (ds.take j) (at0 (ears ds.length (at0 ds) m) (2 * j + 1)) = some (at0 ds j) := by
  have el : (ds.take j).length = j := by rw [List.length_take]; omega
  have e0 : ∀ i, i < j → at0 (ds.take j) i = at0 ds i := fun i hi => at0_take hi
  have et : thruOf (ds.take j) = thru (at0 ds) j * thru (at0 ds) j := by
    unfold thruOf
    rw [el, thru_congr (W := at0 ds) (V := at0 (ds.take j)) e0]
  have ek : at0 (ears ds.length (at0 ds) m) (2 * j + 1) = knownOf (ds.take j) + thruOf (ds.take j) * at0 ds j := by
    rw [ears_at _ _ hm, heard_first hj e0, et]
    unfold knownOf
    rw [el]
  unfold nextP partOf
  rw [ek]
  by_cases h : thruOf (ds.take j) = 0
  · rw [if_pos h]
    rw [et] at h
    have h1 : thru (at0 ds) j = 0 := (Rat.mul_eq_zero.mp h).elim id id
    obtain ⟨i, hij, e1⟩ := thru_zero h1
    rw [hz i j hij e1]
  · rw [if_neg h]
    have e : (knownOf (ds.take j) + thruOf (ds.take j) * at0 ds j - knownOf (ds.take j)) / thruOf (ds.take j) = at0 ds j := by
      have q : (knownOf (ds.take j) + thruOf (ds.take j) * at0 ds j - knownOf (ds.take j)) / thruOf (ds.take j) * thruOf (ds.take j) = _ := Rat.div_mul_cancel h
      generalize (knownOf (ds.take j) + thruOf (ds.take j) * at0 ds j - knownOf (ds.take j)) / thruOf (ds.take j) = x at q ⊢
      have z : (x - at0 ds j) * thruOf (ds.take j) = 0 := by grind
      rcases Rat.mul_eq_zero.mp z with y | y
      · grind
      · exact absurd y h
    rw [e, if_pos (hi _ (List.mem_of_getElem? (at0_get hj)))]
theorem take_push {ds : List Rat} {j : Nat} (hj : j < ds.length) : ds.take j ++ [at0 ds j] = ds.take (j + 1) := by
  rw [List.take_succ, at0_get hj]
  rfl
theorem reach_due {ds : List Rat} (hz : ∀ i j, i < j → at0 ds i = 1 → at0 ds j = 0) (hi : ∀ q ∈ ds, In01 q) {ws : List Rat} (h : Reach (ears ds.length (at0 ds) (2 * ds.length)) ws) : ws = ds.take ws.length ∧ ws.length ≤ ds.length := by
  induction h with
  | nil => exact ⟨by simp, Nat.zero_le _⟩
  | @step us q _ l e ih =>
    rw [ears_len] at l
    have lu : us.length < ds.length := by omega
    have e2 := next_due hz hi lu l
    rw [ih.1] at e
    rw [List.length_take, Nat.min_eq_left (Nat.le_of_lt lu)] at e
    rw [e2] at e
    have eq : at0 ds us.length = q := Option.some.inj e
    rw [List.length_append, List.length_singleton]
    refine ⟨?_, lu⟩
    rw [← take_push lu, ← ih.1, eq]
theorem told_due {ds : List Rat} (hz : ∀ i j, i < j → at0 ds i = 1 → at0 ds j = 0) (hi : ∀ q ∈ ds, In01 q) : told (ears ds.length (at0 ds) (2 * ds.length)) = some ds := by
  have go : ∀ k j, j + k = ds.length → toldGo (ears ds.length (at0 ds) (2 * ds.length)) k (ds.take j) = some ds := by
    intro k
    induction k with
    | zero =>
      intro j hj
      have e : ds.take j = ds := List.take_of_length_le (by omega)
      rw [e]
      unfold toldGo
      rw [ears_len, if_pos rfl]
    | succ k ih =>
      intro j hj
      have lj : j < ds.length := by omega
      unfold toldGo
      rw [List.length_take, Nat.min_eq_left (Nat.le_of_lt lj), next_due hz hi lj (by omega)]
      show toldGo _ k (ds.take j ++ [at0 ds j]) = some ds
      rw [take_push lj]
      exact ih (j + 1) (by omega)
  unfold told
  rw [ears_len]
  have e : 2 * ds.length / 2 = ds.length := by omega
  rw [e]
  exact go ds.length 0 (by omega)
/-- sizes where all parts have a bottom -/
theorem next_ok {D : Nat} {ws : List Rat} {r : Rat} (g : GoodL D ws) (hr : In01 r) (hd : IsD (D ^ (2 * ws.length + 1)) r) (hb : D ^ (2 * ws.length + 2) < 2 ^ 4500) : NextOk ws r := by
  have gg := g.good
  have up : ∀ k, k ≤ 2 * ws.length + 2 → D ^ k < 2 ^ 4500 := fun k hk => Nat.lt_of_le_of_lt (Nat.pow_le_pow_right g.dp hk) hb
  have sm : ∀ k q, k ≤ 2 * ws.length + 2 → IsD (D ^ k) q → -1 ≤ q → q ≤ 1 → Sm q := fun k q hk h h0 h1 => sm_of (Nat.pow_pos g.dp) (up k hk) h h0 h1
  have hk := (state_good gg (2 * ws.length + 1) 0 (Nat.zero_le _)).2
  refine ⟨run_ok gg hb, fun q hq => ?_, fun i hi => ?_, sm _ _ (by omega) hk.2 hk.1.neg1 hk.1.2, ?_⟩
  · have a := g.all q hq
    have e1 : IsD (D ^ 1) q := by rw [Nat.pow_one]; exact a.2
    have pos : 0 < ws.length := List.length_pos_of_mem hq
    refine ⟨sm 1 _ (by omega) e1 a.1.neg1 a.1.2, sm 1 _ (by omega) ((IsD.one _).sub e1) a.1.co.neg1 a.1.co.2, ?_⟩
    have e2 : IsD (D ^ 2) ((1 - q) * (1 - q)) := by
      rw [Nat.pow_succ, Nat.pow_one]
      exact ((IsD.one _).sub a.2).mul ((IsD.one _).sub a.2)
    have m := a.1.co.mul a.1.co
    exact sm 2 _ (by omega) e2 m.neg1 m.2
  · have a := thru_in (W := at0 ws) (j := i) fun k hk => gg.i k (by omega)
    have b := thru_isD (D := D) (W := at0 ws) (j := i) fun k hk => gg.d k (by omega)
    have m := a.mul a
    have e : IsD (D ^ (i + i)) (thru (at0 ws) i * thru (at0 ws) i) := by
      rw [Nat.pow_add]
      exact b.mul b
    exact sm (i + i) _ (by omega) e m.neg1 m.2
  · have a := hk.1
    have h1 := hr.1
    have h2 := hr.2
    have h3 := a.1
    have h4 := a.2
    refine sm (2 * ws.length + 1) _ (by omega) (hd.sub hk.2) ?_ ?_
    · show -1 ≤ r - goL ws.length (at0 ws) (2 * ws.length + 1) 0
      grind
    · show r - goL ws.length (at0 ws) (2 * ws.length + 1) 0 ≤ 1
      grind
theorem GoodL.take {D : Nat} {ws : List Rat} (h : GoodL D ws) (j : Nat) : GoodL D (ws.take j) := ⟨h.dp, fun q hq => h.all q (List.mem_of_mem_take hq)⟩
theorem GoodL.cut {D : Nat} {ws : List Rat} (h : GoodL D ws) : GoodL D (cutOne ws) := ⟨h.dp, fun q hq => by
  rcases cutOne_mem hq with hq | hq
  · exact h.all q hq
  · rw [hq]
    exact ⟨in01_zero, IsD.zero D⟩⟩
/-- the record of a field -/
theorem told_ok {D : Nat} {ds : List Rat} (g : GoodL D ds) (hz : ∀ i j, i < j → at0 ds i = 1 → at0 ds j = 0) (hb : D ^ (2 * ds.length) < 2 ^ 4500) : ToldOk (ears ds.length (at0 ds) (2 * ds.length)) := by
  have hi : ∀ q ∈ ds, In01 q := fun q hq => (g.all q hq).1
  have st : ∀ t, t < 2 * ds.length → In01 (goL ds.length (at0 ds) t 0) ∧ IsD (D ^ t) (goL ds.length (at0 ds) t 0) := fun t ht => (state_good g.good t 0 (Nat.zero_le _)).2
  refine ⟨fun q hq => ?_, fun ws h l => ?_, fun ws h l => ?_⟩
  · obtain ⟨t, ht, rfl⟩ := List.mem_map.mp hq
    have ht := List.mem_range.mp ht
    obtain ⟨a, b⟩ := st t ht
    exact sm_of (Nat.pow_pos g.dp) (Nat.lt_of_le_of_lt (Nat.pow_le_pow_right g.dp (Nat.le_of_lt ht)) hb) b a.neg1 a.2
  · rw [ears_len] at l
    obtain ⟨e, hl⟩ := reach_due hz hi h
    rw [ears_at _ _ l]
    have gw : GoodL D ws := e ▸ g.take ws.length
    obtain ⟨a, b⟩ := st (2 * ws.length + 1) l
    exact next_ok gw a b (Nat.lt_of_le_of_lt (Nat.pow_le_pow_right g.dp (by omega)) hb)
  · rw [ears_len] at l ⊢
    obtain ⟨e, hl⟩ := reach_due hz hi h
    have gw : GoodL D ws := e ▸ g.take ws.length
    exact run_ok gw.good hb
end Ef
namespace Ef
open PySem PySem.Spec PyProof.Rows L2
/-! ### promises -/
def spNext (K : PySem.W.Frag) : Sp := fun vs H Q _ => ∃ (lw lr : Addr) (ws rs : List Rat), vs = [.ref lw, .ref lr] ∧ RL K H lw ws ∧ RL K H lr rs ∧ 2 * ws.length + 1 < rs.length ∧ rs.length ≤ 16 ∧ (∀ q ∈ ws, In01 q) ∧ (∀ q ∈ rs, Sm q) ∧ NextOk ws (at0 rs (2 * ws.length + 1)) ∧
  (∀ q, nextP ws (at0 rs (2 * ws.length + 1)) = some q → ∀ v H', Same H H' → RatAt K H' v q → Q v H') ∧ (nextP ws (at0 rs (2 * ws.length + 1)) = none → ∀ H', Same H H' → Q .non H')
def spTold (K : PySem.W.Frag) : Sp := fun vs H Q _ => ∃ (lr : Addr) (rs : List Rat), vs = [.ref lr] ∧ RL K H lr rs ∧ rs.length % 2 = 0 ∧ 2 ≤ rs.length ∧ rs.length ≤ 16 ∧ (∀ q ∈ rs, 0 ≤ q) ∧ ToldOk rs ∧
  (∀ ws, told rs = some ws → ∀ m H', Same H H' → H m = none → RL K H' m ws → Q (.ref m) H') ∧ (told rs = none → ∀ H', Same H H' → Q .non H')
theorem un65 {k : Nat} {A : Around} (r : Room k A) : A.units + 65 < cLine := by
  have := r.un
  omega
theorem any_one : ∀ qs : List Rat, ((qs.map dRat).any fun z => PyData.eqv z (dRat 1)) = decide (1 ∈ qs)
  | [] => rfl
  | q :: qs => by
    show (PyData.eqv (dRat q) (dRat 1) || (qs.map dRat).any fun z => PyData.eqv z (dRat 1)) = _
    rw [eqv_rat, any_one qs]
    by_cases h : q = 1
    · subst h
      simp
    · have h2 : ¬ (1 = q) := fun e => h e.symm
      simp [h, h2]
theorem half_at {K : PySem.W.Frag} {H : Hp} {t : Addr} (e : H t = some (.tup [.int 1, .int 2])) : RatAt K H (.ref t) (mkRat 1 2) := by
  have e1 : (mkRat 1 2).num = 1 := by decide
  have e2 : (mkRat 1 2).den = 2 := by decide
  refine ⟨t, rfl, ?_⟩
  rw [e1, e2]
  exact SqT.of e
theorem four_good {q : Rat} (h : q ∈ [0, mkRat 1 2, mkRat 1 2, 1]) : In01 q ∧ IsD 60 q := by
  have hh : In01 (mkRat 1 2) ∧ IsD 60 (mkRat 1 2) := ⟨in01_mk (by decide) (by decide) (by decide), isD_mk (b := 2) (e := 30) (by decide)⟩
  rcases List.mem_cons.mp h with h | h
  · rw [h]
    exact ⟨in01_zero, IsD.zero _⟩
  rcases List.mem_cons.mp h with h | h
  · rw [h]
    exact hh
  rcases List.mem_cons.mp h with h | h
  · rw [h]
    exact hh
  · rw [List.mem_singleton.mp h]
    exact ⟨in01_one, IsD.one _⟩
end Ef
namespace Ef
open PySem PySem.Spec PyProof.Rows L2 SX TL
/-! ### texts -/
/-- a loop over the signs of a text -/
theorem for_str {x : Str} {g : TG} {tb : TS} {D : Ends} {σ : L2.St} {H : Hp} (Pv : Nat → L2.St → Hp → Prop) (h0 : Pv 0 σ H)
    (hs : ∀ i c σ H, x.cps[i]? = some c → Pv i σ H → g (.str ⟨#[c]⟩) σ H fun σ2 H2 => tb { D with nx := Pv (i + 1), ct := Pv (i + 1), bk := D.nx } σ2 H2) (hd : ∀ σ H, Pv x.cps.size σ H → D.nx σ H) :
    ∃ W : Nat → Nat → L2.St → Hp → Prop, (∃ m, W 0 m σ H) ∧ ∀ i m σ H, W i m σ H → ((Its x).stop i H ∧ D.nx σ H) ∨ ((Its x).go i H ∧ ∃ N : L2.St → Hp → Prop, (∀ σ' H', N σ' H' → ∃ m', m' < m ∧ W (i + 1) m' σ' H') ∧
      ∀ y H', (Its x).yld i H y H' → g y σ H' fun σ2 H2 => tb { D with nx := N, ct := N, bk := D.nx } σ2 H2) := by
  refine ⟨fun i m σ H => m + i = x.cps.size ∧ Pv i σ H, ⟨x.cps.size, rfl, h0⟩, ?_⟩
  rintro i m σ H ⟨em, p⟩
  by_cases hi : i < x.cps.size
  · refine .inr ⟨hi, Pv (i + 1), fun σ' H' q => ⟨m - 1, by omega, by omega, q⟩, fun y H' hy => ?_⟩
    obtain ⟨rfl, c, hc, rfl⟩ := hy
    exact hs i c σ _ hc p
  · have e : i = x.cps.size := by omega
    subst e
    exact .inl ⟨Nat.le_refl _, hd σ H p⟩
theorem sE : (Str.ofString "") = S [] := by decide +kernel
theorem sSp : (Str.ofString " ") = S [32] := by decide +kernel
theorem sSl : (Str.ofString "/") = S [47] := by decide +kernel
theorem s0 : (Str.ofString "0") = S [48] := by decide +kernel
theorem sFig : (Str.ofString "0123456789") = S [48, 49, 50, 51, 52, 53, 54, 55, 56, 57] := by decide +kernel
theorem fig_mem (c : Nat) : c ∈ (S [48, 49, 50, 51, 52, 53, 54, 55, 56, 57]).cps.toList ↔ 48 ≤ c ∧ c ≤ 57 := by
  show c ∈ [48, 49, 50, 51, 52, 53, 54, 55, 56, 57] ↔ _
  simp only [List.mem_cons, List.not_mem_nil, or_false]
  omega
/-- the number that a word writes -/
def numOk (w : List Nat) : Prop := w ≠ [] ∧ w.length ≤ 12 ∧ (w.head? = some 48 → w = [48]) ∧ ∀ c ∈ w, 48 ≤ c ∧ c ≤ 57
def spNumber : Sp := fun vs H Q _ => ∃ w : List Nat, vs = [.str (S w)] ∧ numOk w ∧ Q (.int ((NumText.digitsVal w : Nat) : Int)) H
theorem numL_head {n : Nat} : (numL n).head? = some 48 → numL n = [48] := by
  induction n using Nat.strongRecOn with
  | ind n ih =>
    intro h
    by_cases hn : n < 10
    · rw [numL_lt hn] at h ⊢
      have e := Option.some.inj h
      rw [e]
    · have h10 : 10 ≤ n := by omega
      rw [numL_step h10] at h ⊢
      have ne := numL_ne (n / 10)
      have h2 : (numL (n / 10)).head? = some 48 := by
        cases e : numL (n / 10) with
        | nil => exact absurd e ne
        | cons a b =>
          rw [e] at h
          exact h
      have h3 := ih (n / 10) (by omega) h2
      have h4 : NumText.digitsVal (numL (n / 10)) = n / 10 := numL_val _
      rw [h3] at h4
      have h5 : n / 10 = 0 := by
        rw [← h4]
        rfl
      omega
theorem num_ok {n : Nat} (h : n < 10 ^ 12) : numOk (numL n) := ⟨numL_ne n, numL_len (by decide) h, numL_head, numL_digits n⟩
def wordOf (q : Rat) : List Nat := numL q.num.toNat ++ ([47] ++ numL q.den)
def textOf (ws : List Rat) : List Nat := joinL [32] (ws.map wordOf)
theorem word_free (q : Rat) : 32 ∉ wordOf q := by
  unfold wordOf
  intro h
  rcases List.mem_append.mp h with h | h
  · exact numL_free (.inl (by decide)) h
  · rcases List.mem_append.mp h with h | h
    · exact absurd (List.mem_singleton.mp h) (by decide)
    · exact numL_free (.inl (by decide)) h
theorem joinL_push (S : List Nat) : ∀ {l : List (List Nat)} {p : List Nat}, l ≠ [] → joinL S (l ++ [p]) = joinL S l ++ (S ++ p)
  | [], _, h => absurd rfl h
  | [a], p, _ => rfl
  | a :: b :: r, p, _ => by
    show a ++ (S ++ joinL S ((b :: r) ++ [p])) = a ++ (S ++ joinL S (b :: r)) ++ (S ++ p)
    rw [joinL_push S (l := b :: r) (by simp)]
    simp [List.append_assoc]
theorem word_split (q : Rat) : spl [47] 0 [] (wordOf q) = [numL q.num.toNat, numL q.den] := by
  unfold wordOf
  rw [spl_part1 (numL_free (.inl (by decide))), List.nil_append, spl_last1 (numL_free (.inl (by decide))), List.nil_append]
theorem text_split {ws : List Rat} (h : ws ≠ []) : spl [32] 0 [] (textOf ws) = ws.map wordOf := by
  unfold textOf
  exact TL.spl_join (by simpa using h) fun p hp => by
    obtain ⟨q, _, rfl⟩ := List.mem_map.mp hp
    exact word_free q
theorem joinL_len (S : List Nat) {n : Nat} : ∀ {l : List (List Nat)}, (∀ p ∈ l, p.length ≤ n) → (joinL S l).length ≤ l.length * (n + S.length)
  | [], _ => Nat.zero_le _
  | [a], h => by
    show a.length ≤ _
    have := h a List.mem_cons_self
    rw [List.length_singleton, Nat.one_mul]
    omega
  | a :: b :: r, h => by
    show (a ++ (S ++ joinL S (b :: r))).length ≤ _
    have h1 := h a List.mem_cons_self
    have h2 := joinL_len S (l := b :: r) fun p hp => h p (List.mem_cons_of_mem _ hp)
    rw [List.length_append, List.length_append, List.length_cons, Nat.add_mul]
    omega
/-- a part with figures that a text may have -/
def Wr (q : Rat) : Prop := 0 ≤ q.num ∧ q.num.toNat < 10 ^ 12 ∧ q.den < 10 ^ 12
theorem word_len {q : Rat} (h : Wr q) : (wordOf q).length ≤ 25 := by
  have a := numL_len (k := 12) (by decide) h.2.1
  have b := numL_len (k := 12) (by decide) h.2.2
  unfold wordOf
  rw [List.length_append, List.length_append, List.length_singleton]
  omega
theorem log_small {i : Int} (h0 : 0 ≤ i) (h : i.toNat < 10 ^ 12) : i.natAbs.log2 < 1920 := by
  refine PySem.Flt.log2_lt_of (by decide) ?_
  have e : i.natAbs = i.toNat := by omega
  rw [e]
  exact Nat.lt_of_lt_of_le (Nat.lt_trans h (show 10 ^ 12 < 2 ^ 40 by decide)) (Nat.pow_le_pow_right (by decide) (by decide))
theorem show_num {i : Int} (h0 : 0 ≤ i) : Str.ofString (toString i) = S (numL i.toNat) := by
  obtain ⟨n, rfl⟩ := Int.eq_ofNat_of_zero_le h0
  rw [Int.toNat_natCast]
  exact num_S n
def spShown (K : PySem.W.Frag) : Sp := fun vs H Q _ => ∃ (f l : Addr) (ws : List Rat), vs = [.ref f] ∧ FieldAt K H f l ws ∧ ws.length ≤ 8 ∧ (∀ q ∈ ws, Wr q) ∧ ∀ H', Same H H' → Q (.str (S (textOf ws))) H'
def spPart (K : PySem.W.Frag) : Sp := fun vs H Q _ => ∃ q : Rat, vs = [.str (S (wordOf q))] ∧ Wr q ∧ ∀ p H', Same H H' → RatAt K H' (.ref p) q → Q (.ref p) H'
def spRead (K : PySem.W.Frag) : Sp := fun vs H Q _ => ∃ ws : List Rat, vs = [.str (S (textOf ws))] ∧ 1 ≤ ws.length ∧ ws.length ≤ 8 ∧ (∀ q ∈ ws, Wr q) ∧ Unit1 ws ∧ ∀ (p m : Addr) (H' : Hp), H p = none → Same H H' → FieldAt K H' p m ws → Q (.ref p) H'
/-- the halves of a fraction within a comprehension -/
theorem pe_numK {X : Cx} {K : PySem.W.Frag} (i : Nat) (hK : X.K = K) {x : Str} {p p2 pos : Pos} {j : Nat} (hN : X.N[i]? = some x := by rfl) (hv : Vis X.env.scope x := by first | exact Or.inl rfl | exact Or.inr (Or.inl rfl) | exact Or.inr (Or.inr rfl)) (hd : (x == ("__debug__" : Str)) = false := by decide)
    (hcd : (x == ("__classdict__" : Str)) = false := by decide) : PE X (.Subscript (.Name x p) (.Constant (.int 0) j p2) pos) (tNum K i) := by
  subst hK
  exact pe_num i hN hv hd hcd
theorem pe_denK {X : Cx} {K : PySem.W.Frag} (i : Nat) (hK : X.K = K) {x : Str} {p p2 pos : Pos} {j : Nat} (hN : X.N[i]? = some x := by rfl) (hv : Vis X.env.scope x := by first | exact Or.inl rfl | exact Or.inr (Or.inl rfl) | exact Or.inr (Or.inr rfl)) (hd : (x == ("__debug__" : Str)) = false := by decide)
    (hcd : (x == ("__classdict__" : Str)) = false := by decide) : PE X (.Subscript (.Name x p) (.Constant (.int 1) j p2) pos) (tDen K i) := by
  subst hK
  exact pe_den i hN hv hd hcd
theorem words_sum : ∀ {ws : List Rat}, (∀ q ∈ ws, Wr q) → ((ws.map fun q => S (wordOf q)).map (·.length)).sum ≤ ws.length * 25
  | [], _ => Nat.zero_le _
  | q :: ws, h => by
    have a := word_len (h q List.mem_cons_self)
    have b := words_sum (ws := ws) fun p hp => h p (List.mem_cons_of_mem _ hp)
    show (S (wordOf q)).length + ((ws.map fun q => S (wordOf q)).map (·.length)).sum ≤ (ws.length + 1) * 25
    rw [S_len]
    omega
theorem text_len {ws : List Rat} (h : ∀ q ∈ ws, Wr q) : (textOf ws).length ≤ ws.length * 26 := by
  have z := joinL_len [32] (n := 25) (l := ws.map wordOf) fun p hp => by
    obtain ⟨q, hq, rfl⟩ := List.mem_map.mp hp
    exact word_len (h q hq)
  rw [List.length_map] at z
  exact z
theorem text_push {ws : List Rat} (q : Rat) (h : ws ≠ []) : textOf (ws ++ [q]) = textOf ws ++ ([32] ++ wordOf q) := by
  unfold textOf
  rw [List.map_append]
  exact joinL_push [32] (by simpa using h)
theorem text_one (q : Rat) : textOf [q] = wordOf q := rfl
theorem cat_ok {x y : Str} {a b : Nat} (ha : x.length ≤ a) (hb : y.length ≤ b) (h : a + b ≤ 1000) : x.length + y.length ≤ sizeLine := Nat.le_trans (show _ ≤ 1000 by omega) (by decide)
theorem cat_len {x y : Str} {a b : Nat} (ha : x.length ≤ a) (hb : y.length ≤ b) : (x ++ y).length ≤ a + b := by
  rw [PySem.Str.length_append]
  omega
end Ef
namespace Ef
open PySem PySem.Spec PyProof.Rows L2
/-! ### refusals: raised, caught, their kinds asked -/
abbrev CXN : Program → World → CXT := fun P w => L2N.CX P w
/-- isinstance of the exception at a, which the context bears -/
theorem call_isP {X : Cx} {a D : Addr} {oe : Obj} (hp : (a, oe) ∈ X.pn) (C : ExcC X.K D) (hz : Zc (.ref D) none oe) (hf : ∃ vs, oe.data = .fields vs) : CallR X (.builtin "isinstance") (rIsE X.K D a) := by
  intro pins s σ H xs us Q I r ⟨c, cv, b, exs, hcv, ek, q⟩
  subst exs
  match us, r with
  | [_, _], .cons e1 (.cons e2 .nil) =>
    obtain rfl := e1
    obtain rfl := hcv _ e2
    have there := (I.pin (a, oe) (List.mem_append_left _ hp)).1
    have J : PySem.W.InstAt s.heap a oe D none := by
      revert there hz hf
      cases oe with
      | mk k1 k2 k3 k4 =>
        rintro ⟨g1, g2⟩ ⟨ws, g3⟩ there
        have g1 : k1 = _ := g1
        have g2 : k2 = _ := g2
        have g3 : k3 = _ := g3
        subst g1 g2 g3
        exact ⟨there, rfl, rfl, trivial⟩
    exact PySem.W.kia_one (PySem.W.handS_kitx_exc C.hg C.hk C.hs C.hd C.ha C.hn C.ht C.hm) I.kIn J ek (fun z => nomatch z) fun tk => ⟨.bl b, H, I.kept (t' := tk) (fun _ _ same => same), rfl, q⟩
/-- a def that is handed the exception that is handled, of the class at D -/
structure FnE (P : Program) (w : World) (K : PySem.W.Frag) (mg : Str → Option Value) (base : Heap) (D : Addr) (k : Nat) (f : Addr) (fd : FuncData) (ps : List Str) (sp : Addr → Sp) : Prop where
  len : ∀ a vs H Q E, sp a vs H Q E → vs.length = ps.length
  run : ∀ (A : Around) (outer : List Env) (s : Shared) (H : Hp) (args : Args) (us : List Value) (vs : List V) (Q : VK) (E : XK) (p : Addr × Obj), L2H.RoomH k A → L2H.Hot1 A p → Zc (.ref D) none p.2 → L2H.PinOk outer H s p → Env0 P w K mg base A outer s H →
    BindsTo s fd args (ps.zip us) → Vals vs us → sp p.1 vs H Q E → codeAny (model P w) A (.call (.ref f) args) (CR CX0 outer P w H s Q E) s
theorem fne_of {P : Program} {w : World} {K : PySem.W.Frag} {mg : Str → Option Value} {base : Heap} {D : Addr} {k : Nat} {f : Addr} {fd : FuncData} {x : Str} {st : Stmt} {N ps : List Str} {sp : Addr → Sp} (F : FnP K x x st f fd) (S : FnScope N ps (defScope st))
    (len : ∀ a vs H Q E, sp a vs H Q E → vs.length = ps.length)
    (body : ∀ (cdv : Value) (A : Around) (outer : List Env) (s : Shared) (H : Hp) (vs : List V) (Q : VK) (E : XK) (p : Addr × Obj), L2H.Hot1 A p → Zc (.ref D) none p.2 → L2H.RoomH k (A.deeper (envOfC x (defScope st) s.heap.objs.size f cdv)) → sp p.1 vs H Q E →
      ∃ t, PSs (L2H.cxH CX0 P w K mg base N x (defScope st) f cdv A outer s H E p) (defBody st) t ∧ t { nx := fun _ H' => Q .non H', rt := Q } (L2.start N vs) H) :
    FnE P w K mg base D (k + 1) f fd ps sp := by
  obtain ⟨oc, od, dV, kV, doc, pm, an, cdv, ct, osl, efd, lk, hcd, hd, hk⟩ := F.ex
  subst efd
  refine ⟨len, fun A outer s H args us vs Q E p room hot cls pin e0 hb rv hsp => ?_⟩
  have arity := len _ _ _ _ _ hsp
  have inK : K.In s.heap := e0.mod.kin.keeps (fun b o y => (e0.bs b o y).1)
  have nolim : s.heap.NoLimit := e0.mod.nolimit.keeps (fun b o y => (e0.bs b o y).1)
  have own : ∀ y ∈ ps.zip us, (defScope st).names.lookup y.1 = some .local ∨ ((defScope st).names.lookup y.1 = some .cell ∧ ((cellsFrom (s.heap.objs.size + 1) (defScope st).names []).lookup y.1).isSome = true) := by
    rintro ⟨nm, u⟩ hy
    cases S.par nm (List.of_mem_zip hy).1 with
    | inl q => exact Or.inl q
    | inr q => exact Or.inr ⟨q, PySem.W.cellsFrom_some _ _ _ (Or.inl q)⟩
  refine codeAny_call_function room.depth (inK _ _ lk) rfl S.co S.gen rfl (PySem.W.codeRec_of inK hcd) (hb _ _ _ _ ?_)
  refine wpAny_newFunctionEnv_cells S.kind own fun env he s1 started => ?_
  subst he
  refine ⟨nolim.keeps started.toInCall.keep, codeAny_func ?_⟩
  obtain ⟨t, walk, ask⟩ := body cdv A outer s H vs Q E p hot cls (room.deeper _) hsp
  have I : Inv (L2H.cxH CX0 P w K mg base N x (defScope st) f cdv A outer s H E p) [] (L2.start N vs) H s1 := L2H.inv_startH S pin e0 arity rv started
  refine wpAny_mono (walk.run [] s1 (L2.start N vs) H _ I ask) ?_ (fun _ _ out => out)
  intro fl s2 ended
  have back : ∀ {σ2 : L2.St} {H2 : Hp} {v : V} {u : Value}, Inv (L2H.cxH CX0 P w K mg base N x (defScope st) f cdv A outer s H E p) [] σ2 H2 s2 → RelV v u → Q v H2 → CE outer P w H s Q u s2 := by
    intro σ2 H2 v u J r q
    exact ⟨v, H2, J.os, J.bare, J.base, J.hok, r, q⟩
  cases fl with
  | next =>
    obtain ⟨σ2, H2, J, q⟩ := ended
    exact back (v := V.non) (u := Value.none) J rfl q
  | ret u =>
    obtain ⟨v, σ2, H2, J, r, q⟩ := ended
    exact back J r q
  | brk =>
    obtain ⟨_, _, _, q⟩ := ended
    exact q.elim
  | cont =>
    obtain ⟨_, _, _, q⟩ := ended
    exact q.elim
section
variable {X : Cx} {k : Nat} {f D a : Addr} {fd : FuncData} {oe : Obj} {ps : List Str} {sp : Addr → Sp} {x : Str} {q pos : Pos} {e : Expr} {es : List Expr} {t : TA}
/-- its call within the suite -/
theorem pe_callE (F : FnE X.prog X.w X.K X.mg X.base D k f fd ps sp) (hr : L2H.RoomH k X.A) (hh : X.A.handled = some (.ref a)) (hp : (a, oe) ∈ X.pn) (hz : L2N.Zn (.ref D) none oe) (hf : ∃ vs, oe.data = .fields vs)
    (hg : Gl X x) (hm : X.mg x = some (.ref f)) (hk : PySem.W.keepIn X.K (.ref f) = true) (hb : Binds X.K fd ps []) (ha : PA X (e :: es) t) (hdb : (x == ("__debug__" : Str)) = false := by decide)
    (he : starEach (e :: es) X.env = (false, eval e X.env) :: starEach es X.env := by rfl) (hpl : (backTo pos (starEach es X.env)).any (·.1) = false := by rfl) :
    PE X (.Call (.Name x q) (e :: es) [] pos) (fun σ H Q => t σ H fun vs H1 => sp a vs H1 Q E0) := by
  constructor
  intro pins s σ H Q I h
  refine wpAny_Call_Name_kw (ld_glob I hg hm ?_ hdb)
  refine PySem.W.callWith_K (h₀ := X.base) I.ok.mod.kin hk (thn (ha.run pos pins s σ H _ I h) ?_) he hpl
  intro us s1 got
  obtain ⟨vs, H1, I1, r, q1⟩ := got
  refine ⟨I1.kIn, ?_⟩
  obtain ⟨ws, ew⟩ := hf
  have hot : L2H.Hot1 X.A (a, oe) := ⟨hh, ws, ew, hz.2.2 ws ew⟩
  have arity : us.length = ps.length := (r.length.symm).trans (F.len _ _ _ _ _ q1)
  have bs := hb s1 us I1.kIn ((congrArg List.length (List.append_nil us)).trans arity)
  rw [List.append_nil] at bs
  have P1 := I1.pin (a, oe) (List.mem_append_left _ hp)
  have pinned : L2H.PinOk X.stack H1 s1 (a, oe) := by
    refine ⟨P1.1, P1.2.1, fun hm => ?_, P1.2.2.2.2⟩
    cases List.mem_cons.mp (I1.stkSub a hm) with
    | inl y => exact P1.2.2.1 y
    | inr y => exact P1.2.2.2.1 y
  refine wpAny_call (codeAny_mono (F.run X.A X.stack s1 H1 ⟨us, []⟩ us vs Q E0 (a, oe) hr hot hz.zc pinned I1.env0 bs r q1) ?_)
  intro rr s2 hq
  match rr, hq with
  | .ok (.ret u), hq => exact I1.after hq
  | .ok .next, hq => exact hq.elim
  | .ok .brk, hq => exact hq.elim
  | .ok .cont, hq => exact hq.elim
  | .error u, hq => exact pass0 pins σ H1 s1 u s2 I1 hq
end
/-! ### the kinds -/
/-- of which of the refusals' classes the class at D is -/
structure KindAt (K : PySem.W.Frag) (D : Addr) (j : Nat) : Prop where
  ec : ExcC K D
  k0 : PySem.W.kitOne K (.ref D) (.ref (He.ga K "NoField")) = some (j == 0)
  k1 : PySem.W.kitOne K (.ref D) (.ref (He.ga K "NoMoment")) = some (j == 1)
  k2 : PySem.W.kitOne K (.ref D) (.ref (He.ga K "NoRecord")) = some (j == 2)
  k3 : PySem.W.kitOne K (.ref D) (.ref (He.ga K "TooMany")) = some (j == 3)
  k4 : PySem.W.kitOne K (.ref D) (.ref (He.ga K "BadText")) = some (j == 4)
  kv : PySem.W.kitOne K (.ref D) (.type "ValueError") = some true
def kindB (K : PySem.W.Frag) (D : Addr) (j : Nat) : Bool :=
  He.eqO (PySem.W.findIn K (.ref D) "__getattribute__") (some (some (.builtin "BaseException.__getattribute__"))) && He.eqO (PySem.W.findIn K (.ref D) "__getattr__") (some none) && decide (PySem.W.subIn K (.ref D) (.type "BaseException") = some true) && PySem.W.hasDictIn K D &&
  He.eqO (PySem.W.findIn K (.ref D) "__class__") (some (some (.builtin "object.__class__"))) && He.eqO (PySem.W.specialIn K (.builtin "object.__class__") "__get__") (some (some (.builtin "getset_descriptor.__get__"))) && decide (PySem.W.takesIn K (.builtin "object.__class__") = some true) && decide (PySem.W.mroIn K D (.type "object") = some true) &&
  decide (PySem.W.kitOne K (.ref D) (.ref (He.ga K "NoField")) = some (j == 0)) && decide (PySem.W.kitOne K (.ref D) (.ref (He.ga K "NoMoment")) = some (j == 1)) && decide (PySem.W.kitOne K (.ref D) (.ref (He.ga K "NoRecord")) = some (j == 2)) &&
  decide (PySem.W.kitOne K (.ref D) (.ref (He.ga K "TooMany")) = some (j == 3)) && decide (PySem.W.kitOne K (.ref D) (.ref (He.ga K "BadText")) = some (j == 4)) && decide (PySem.W.kitOne K (.ref D) (.type "ValueError") = some true)
theorem kind_ok {K : PySem.W.Frag} {D : Addr} {j : Nat} (h : kindB K D j = true) : KindAt K D j := by
  unfold kindB at h
  simp only [Bool.and_eq_true] at h
  obtain ⟨⟨⟨⟨⟨⟨⟨⟨⟨⟨⟨⟨⟨a1, a2⟩, a3⟩, a4⟩, a5⟩, a6⟩, a7⟩, a8⟩, b0⟩, b1⟩, b2⟩, b3⟩, b4⟩, bv⟩ := h
  exact ⟨⟨He.eqO_ok a1, He.eqO_ok a2, of_decide_eq_true a3, a4, He.eqO_ok a5, He.eqO_ok a6, of_decide_eq_true a7, of_decide_eq_true a8⟩, of_decide_eq_true b0, of_decide_eq_true b1, of_decide_eq_true b2, of_decide_eq_true b3, of_decide_eq_true b4, of_decide_eq_true bv⟩
/-- the globals that name the classes -/
structure ExG (K : PySem.W.Frag) (mg : Str → Option Value) : Prop where
  g0 : mg "NoField" = some (.ref (He.ga K "NoField"))
  g1 : mg "NoMoment" = some (.ref (He.ga K "NoMoment"))
  g2 : mg "NoRecord" = some (.ref (He.ga K "NoRecord"))
  g3 : mg "TooMany" = some (.ref (He.ga K "TooMany"))
  g4 : mg "BadText" = some (.ref (He.ga K "BadText"))
  gv : mg "ValueError" = none
def kindL (j : Nat) : List Bool := [j == 0, j == 1, j == 2, j == 3, j == 4, true]
def spKind (K : PySem.W.Frag) (j : Nat) : Addr → Sp := fun a vs H Q _ => vs = [.ref a] ∧ ∀ l H', Same H H' → H l = none → H' l = some (.lst ((kindL j).map V.bl)) → Q (.ref l) H'
def spOneOf : Sp := fun vs H Q _ => ∃ j : Nat, vs = [.int (j : Int)] ∧ ∀ l H', Same H H' → H l = none → H' l = some (.lst ((kindL j).map V.bl)) → Q (.ref l) H'
/-- a class of refusals that the program raises -/
structure ErrX (K : PySem.W.Frag) (mg : Str → Option Value) (x : Str) : Prop where
  g : mg x = some (.ref (He.ga K x))
  xc : PySem.W.excIn K (He.ga K x) He.veBase "ValueError.__new__" = true
  k : PySem.W.keepIn K (.ref (He.ga K x)) = true
  b : PySem.W.subIn K (.ref (He.ga K x)) (.type "BaseException") = some true
  t : PySem.W.typeIn K (.ref (He.ga K x)) = some (.type "type")
/-- data of truth values -/
def dBools (bs : List Bool) : PyData := .list (bs.map PyData.bool)
theorem takes_noneN {X : Cx} : L2N.Takes X (fun _ _ _ _ => False) := by
  rintro _ _ ⟨_, _, _, _, _, _, _, _, _, _, _, _, _, _, _, _, z⟩
  exact z.elim
section
variable {X : Cx} {k j : Nat} {x : Str} {ps : List Str} {sp : Sp} {e : Expr} {es : List Expr} {t : TA} {p pos : Pos} {W : WX} {E : XK}
/-- a call of a def that may refuse: out of this def -/
theorem pe_gdX (G : Gd (CXN X.prog X.w) X.prog X.w X.K X.mg X.base j x ps sp) (hr : Room k X.A) (tk : L2N.Takes X W) (hW : ∀ cls d σ H, E cls d H → W cls d σ H) (ha : PA X (e :: es) t) (hjk : j ≤ k := by decide) (hg : Gl X x := by rfl) (hdb : (x == ("__debug__" : Str)) = false := by decide)
    (he : starEach (e :: es) X.env = (false, eval e X.env) :: starEach es X.env := by rfl) (hpl : (backTo pos (starEach es X.env)).any (·.1) = false := by rfl) :
    PE X (.Call (.Name x p) (e :: es) [] pos) (tCall sp [] E t) := by
  obtain ⟨f, fd, F, g, kp, b⟩ := G
  exact pe_call F (hr.mono hjk) hg g kp b .nil (L2N.passes_call tk hW) ha hdb he hpl
/-- .. in a try -/
theorem pe_gdS (G : Gd (CXN X.prog X.w) X.prog X.w X.K X.mg X.base j x ps sp) (hr : Room k X.A) (tk : L2N.Takes X W) (ha : PA X (e :: es) t) (hjk : j ≤ k := by decide) (hg : Gl X x := by rfl) (hdb : (x == ("__debug__" : Str)) = false := by decide)
    (he : starEach (e :: es) X.env = (false, eval e X.env) :: starEach es X.env := by rfl) (hpl : (backTo pos (starEach es X.env)).any (·.1) = false := by rfl) :
    PE X (.Call (.Name x p) (e :: es) [] pos) (tCallS sp (WE W) t) := by
  obtain ⟨f, fd, F, g, kp, b⟩ := G
  exact pe_callS F (hr.mono hjk) hg g kp b (fun σ => L2N.passAt tk σ) ha hdb he hpl
end
/-- the law's _law_kind, for each class of refusals -/
def GdKind (P : Program) (w : World) (K : PySem.W.Frag) (mg : Str → Option Value) (base : Heap) : Prop :=
  ∃ f fd, (∀ D j, KindAt K D j → FnE P w K mg base D 1 f fd ["e"] (spKind K j)) ∧ mg "_law_kind" = some (.ref f) ∧ PySem.W.keepIn K (.ref f) = true ∧ Binds K fd ["e"] []
def tKind (K : PySem.W.Frag) (cls : Value) (d : Option Addr) (a : Addr) (t : TA) : TE := fun σ H Q => ∃ D j, cls = .ref D ∧ d = none ∧ KindAt K D j ∧ t σ H fun vs H1 => spKind K j a vs H1 Q E0
section
variable {X : Cx} {k : Nat} {a : Addr} {oe : Obj} {pn : List (Addr × Obj)} {cls : Value} {d : Option Addr} {e : Expr} {t : TA} {q pos : Pos}
theorem pe_kind (G : GdKind X.prog X.w X.K X.mg X.base) (hr : Room k X.A) (hz : L2N.Zn cls d oe) (hf : ∃ vs, oe.data = .fields vs) (ha : PA (X.suite a ((a, oe) :: pn)) [e] t) (hk : 1 ≤ k := by decide) (hg : Gl X "_law_kind" := by rfl)
    (he : starEach [e] X.env = (false, eval e X.env) :: starEach [] X.env := by rfl) :
    PE (X.suite a ((a, oe) :: pn)) (.Call (.Name "_law_kind" q) [e] [] pos) (tKind X.K cls d a t) := by
  constructor
  intro pins s σ H Q I ⟨D, j, e1, e2, kd, h⟩
  subst e1 e2
  obtain ⟨f, fd, F, g, kp, b⟩ := G
  have r1 := (hr.mono hk)
  have room : L2H.RoomH 1 (X.suite a ((a, oe) :: pn)).A := ⟨r1.dp, r1.un⟩
  exact (pe_callE (X := X.suite a ((a, oe) :: pn)) (F D j kd) room rfl List.mem_cons_self hz hf hg g kp b ha (by decide) he rfl).run pins s σ H Q I h
end
/-! ### promises -/
def spRunX (K : PySem.W.Frag) : Sp := fun vs H _ E => ∃ (f : Addr) (z : Int), vs = [.ref f, .int z] ∧ (z < 0 ∨ 40 < z) ∧ E (.ref (He.ga K "NoMoment")) none H
def spRefused (K : PySem.W.Frag) : Sp := fun vs H Q _ => ∃ (c : Int) (f : Addr) (z : Int), vs = [.int c, .ref f, .int z] ∧ (c = 0 ∨ c = 1 ∨ c = 2) ∧ (z < 0 ∨ 40 < z) ∧ ∀ H', Same H H' → Q (.bl true) H'
theorem bools_dp {K : PySem.W.Frag} {H : Hp} : ∀ bs : List Bool, DpAll K H (bs.map V.bl) (bs.map PyData.bool)
  | [] => .nil
  | b :: bs => .cons (.bl b) (bools_dp bs)
theorem bools_at {K : PySem.W.Frag} {H : Hp} {l : Addr} {bs : List Bool} (h : H l = some (.lst (bs.map V.bl))) : Dp K H (.ref l) (dBools bs) := .lst (SqL.of h) (bools_dp bs)
/-! ### an object made in a try -/
def tMakeS (C : Addr) (sp : Sp) (W : WX) (t : TA) : TE := fun σ H Q => t σ H fun vs H1 => ∀ x dx, H1 x = none → H1 dx = none → dx ≠ x → sp (.ref x :: vs) (upd (upd H1 dx (.own x)) x (.ins C dx [])) (fun v H2 => v = .non ∧ Q (.ref x) H2) (WE W σ)
section
variable {X : Cx} {k : Nat} {f C : Addr} {fd : FuncData} {ps : List Str} {sp : Sp} {x : Str} {e : Expr} {es : List Expr} {t : TA} {p pos : Pos} {W : WX}
theorem pe_makeS (M : Mk X.K C f) (F : FnOk X.prog X.w X.K X.mg X.base (CXN X.prog X.w) k f fd ps sp) (hr : Room (k + 1) X.A) (tk : L2N.Takes X W) (hg : Gl X x) (hm : X.mg x = some (.ref C)) (hb : Binds X.K fd ps []) (ha : PA X (e :: es) t)
    (hdb : (x == ("__debug__" : Str)) = false := by decide) (he : starEach (e :: es) X.env = (false, eval e X.env) :: starEach es X.env := by rfl) (hpl : (backTo pos (starEach es X.env)).any (·.1) = false := by rfl) :
    PE X (.Call (.Name x p) (e :: es) [] pos) (tMakeS C sp W t) := by
  constructor
  intro pins s σ H Q I h
  refine wpAny_Call_Name_kw (ld_glob I hg hm ?_ hdb)
  refine PySem.W.callWith_K (h₀ := X.base) I.ok.mod.kin M.kp (thn (ha.run pos pins s σ H _ I h) ?_) he hpl
  intro us s1 got
  obtain ⟨vs, H1, I1, r, q⟩ := got
  refine ⟨I1.kIn, ?_⟩
  have two : s1.heap.objs.size ≠ s1.heap.objs.size + 1 := Nat.ne_of_lt (Nat.lt_succ_self _)
  have ask := q (s1.heap.objs.size + 1) s1.heap.objs.size (I1.hok.fresh (Nat.le_succ _)) (I1.hok.fresh (Nat.le_refl _)) two
  have made := Inv.made (C := C) I1
  have vals : Vals (V.ref (s1.heap.objs.size + 1) :: vs) (Value.ref (s1.heap.objs.size + 1) :: us) := .cons rfl r
  have arity : (Value.ref (s1.heap.objs.size + 1) :: us).length = ps.length := vals.length.symm.trans (F.len _ _ _ _ ask)
  have bs := hb _ (Value.ref (s1.heap.objs.size + 1) :: us) made.kIn ((congrArg List.length (List.append_nil _)).trans arity)
  rw [List.append_nil] at bs
  have here := made.env0.make C us []
  refine wpAny_call (make_map (f := f) I1.kIn M.makes M.init (beq_iff_eq.mp M.fn) (codeAny_mono (F.run _ X.stack _ _ ⟨Value.ref (s1.heap.objs.size + 1) :: us, []⟩ (Value.ref (s1.heap.objs.size + 1) :: us) _ _ (WE W σ) (hr.make C us []) here bs vals ask) ?_))
  intro rr s2 hq
  match rr, hq with
  | .error u, hq => exact L2N.passAt tk σ pins _ _ u s2 made hq
  | .ok .next, hq => exact hq.elim
  | .ok .brk, hq => exact hq.elim
  | .ok .cont, hq => exact hq.elim
  | .ok (.ret u), hq =>
    obtain ⟨v, H2, I2, rv, ev, q2⟩ := made.after hq
    subst ev
    exact ⟨rv, ⟨V.ref (s1.heap.objs.size + 1), H2, I2, rfl, q2⟩⟩
end
/-- a field made, or refused -/
def FieldOk (ws : List Rat) : Prop := 1 ≤ ws.length ∧ ws.length ≤ 8 ∧ Unit1 ws
def spInitX (K : PySem.W.Frag) : Sp := fun vs H Q E => ∃ (p l dx : Addr) (ws : List Rat), vs = [.ref p, .ref l] ∧ H p = some (.ins (FC K) dx []) ∧ RL K H l ws ∧ ws.length ≤ 1000 ∧
  (FieldOk ws → ∀ (m : Addr) (H' : Hp), H m = none → FieldAt K H' p m ws → (∀ b o, H b = some o → b ≠ p → H' b = some o) → Q .non H') ∧ (¬ FieldOk ws → E (.ref (He.ga K "NoField")) none H)
def InitOkX (P : Program) (w : World) (K : PySem.W.Frag) (mg : Str → Option Value) (base : Heap) : Prop := ∃ f fd, FnOk P w K mg base (CXN P w) 1 f fd ["self", "walls"] (spInitX K) ∧ Mk K (FC K) f ∧ Binds K fd ["self", "walls"] []
theorem make_fieldX {K : PySem.W.Frag} {H : Hp} {Q : Addr → Hp → Prop} {W : XK} {l : Addr} {ws : List Rat} (h : RL K H l ws) (hn : ws.length ≤ 1000)
    (hQ : FieldOk ws → ∀ (p m : Addr) (H' : Hp), H p = none → H m = none → Same H H' → FieldAt K H' p m ws → Q p H') (hE : ¬ FieldOk ws → ∀ H', Same H H' → W (.ref (He.ga K "NoField")) none H') :
    ∀ x dx, H x = none → H dx = none → dx ≠ x → spInitX K (.ref x :: [.ref l]) (upd (upd H dx (.own x)) x (.ins (FC K) dx [])) (fun v H2 => v = .non ∧ Q x H2) W := by
  intro x dx nx nd ne
  have s0 : Same H (upd (upd H dx (.own x)) x (.ins (FC K) dx [])) := fun b o e => by
    rw [upd_ne (ne_of_none e nx), upd_ne (ne_of_none e nd)]
    exact e
  exact ⟨x, l, dx, ws, rfl, upd_same, h.same s0, hn, fun ok m H' hm hf hk => ⟨rfl, hQ ok x m H' nx (s0.free hm) (fun b o e => hk b o (s0 b o e) (ne_of_none e nx)) hf⟩, fun no => hE no _ s0⟩
def spJoinedX (K : PySem.W.Frag) : Sp := fun vs H Q E => ∃ (f l g m : Addr) (ws us : List Rat), vs = [.ref f, .ref g] ∧ FieldAt K H f l ws ∧ FieldAt K H g m us ∧ 1 ≤ ws.length ∧ ws.length ≤ 8 ∧ us.length ≤ 8 ∧ Unit1 ws ∧ Unit1 us ∧
  (ws.length + us.length ≤ 8 → ∀ (p r : Addr) (H' : Hp), H p = none → H r = none → Same H H' → FieldAt K H' p r (ws ++ us) → Q (.ref p) H') ∧ (8 < ws.length + us.length → ∀ H', Same H H' → E (.ref (He.ga K "TooMany")) none H')
def spMade (K : PySem.W.Frag) : Sp := fun vs H Q _ =>
  (∃ (l : Addr) (ws : List Rat), vs = [.int 0, .ref l, .non] ∧ RL K H l ws ∧ ws.length ≤ 1000 ∧
    (FieldOk ws → ∀ (t x m lk : Addr) (H' : Hp), Same H H' → H' t = some (.tup [.ref x, .ref lk]) → FieldAt K H' x m ws → H x = none → H m = none → RL K H' lk [] → Q (.ref t) H') ∧
    (¬ FieldOk ws → ∀ (t lk : Addr) (H' : Hp), Same H H' → H' t = some (.tup [.non, .ref lk]) → H' lk = some (.lst ((kindL 0).map V.bl)) → Q (.ref t) H')) ∨
  (∃ (f l g m : Addr) (ws us : List Rat), vs = [.int 1, .ref f, .ref g] ∧ FieldAt K H f l ws ∧ FieldAt K H g m us ∧ 1 ≤ ws.length ∧ ws.length ≤ 8 ∧ us.length ≤ 8 ∧ Unit1 ws ∧ Unit1 us ∧
    (ws.length + us.length ≤ 8 → ∀ (t x r lk : Addr) (H' : Hp), Same H H' → H' t = some (.tup [.ref x, .ref lk]) → FieldAt K H' x r (ws ++ us) → RL K H' lk [] → Q (.ref t) H') ∧
    (8 < ws.length + us.length → ∀ (t lk : Addr) (H' : Hp), Same H H' → H' t = some (.tup [.non, .ref lk]) → H' lk = some (.lst ((kindL 3).map V.bl)) → Q (.ref t) H'))
theorem rat_of {K : PySem.W.Frag} {H : Hp} {t : Addr} {q : Rat} {n d : Int} (e : H t = some (.tup [.int n, .int d])) (hn : n = q.num) (hd : d = (q.den : Int)) : RatAt K H (.ref t) q := ⟨t, rfl, by rw [← hn, ← hd]; exact SqT.of e⟩
/-- the last item stored -/
theorem ixs_last {K : PySem.W.Frag} {H : Hp} {l : Addr} {qs : List Rat} {Q : Hp → Prop} {v : V} {q : Rat} (h : RL K H l qs) (hi : 0 < qs.length) (r : RatAt K H v q)
    (hQ : ∀ H', Kt H H' → (∀ b, b ≠ l → H' b = H b) → RL K H' l (qs.set (qs.length - 1) q) → Q H') : rSetL (.ref l) (.int (-1)) v H Q := by
  obtain ⟨xs, e, rx⟩ := h
  have hx : 0 < xs.length := by rw [rx.1]; exact hi
  refine ⟨l, xs, -1, qs.length - 1, rfl, rfl, e, ?_, hQ _ (Kt.set e) (fun b hb => upd_ne hb) (RL.upd e (rx.set r))⟩
  unfold ixN
  have h1 := rx.1
  rw [if_neg (by omega), if_pos (by omega)]
  congr 1
  omega
end Ef
namespace Ef
open PySem PySem.Spec PyProof.Rows L2
/-! ### refusals whose context may be another one -/
abbrev CXL : Program → World → CXT := fun P w => L2.CX P w
/-- a def that is handed the exception that is handled, of the class at D -/
structure FnEL (P : Program) (w : World) (K : PySem.W.Frag) (mg : Str → Option Value) (base : Heap) (D : Addr) (k : Nat) (f : Addr) (fd : FuncData) (ps : List Str) (sp : Addr → Sp) : Prop where
  len : ∀ a vs H Q E, sp a vs H Q E → vs.length = ps.length
  run : ∀ (A : Around) (outer : List Env) (s : Shared) (H : Hp) (args : Args) (us : List Value) (vs : List V) (Q : VK) (E : XK) (p : Addr × Obj), L2H.RoomH k A → (A.handled = some (.ref p.1) ∧ ∃ vs, p.2.data = .fields vs) → Zc (.ref D) none p.2 → L2H.PinOk outer H s p → Env0 P w K mg base A outer s H →
    BindsTo s fd args (ps.zip us) → Vals vs us → sp p.1 vs H Q E → codeAny (model P w) A (.call (.ref f) args) (CR CX0 outer P w H s Q E) s
theorem fne_ofL {P : Program} {w : World} {K : PySem.W.Frag} {mg : Str → Option Value} {base : Heap} {D : Addr} {k : Nat} {f : Addr} {fd : FuncData} {x : Str} {st : Stmt} {N ps : List Str} {sp : Addr → Sp} (F : FnP K x x st f fd) (S : FnScope N ps (defScope st))
    (len : ∀ a vs H Q E, sp a vs H Q E → vs.length = ps.length)
    (body : ∀ (cdv : Value) (A : Around) (outer : List Env) (s : Shared) (H : Hp) (vs : List V) (Q : VK) (E : XK) (p : Addr × Obj), (A.handled = some (.ref p.1) ∧ ∃ vs, p.2.data = .fields vs) → Zc (.ref D) none p.2 → L2H.RoomH k (A.deeper (envOfC x (defScope st) s.heap.objs.size f cdv)) → sp p.1 vs H Q E →
      ∃ t, PSs (L2H.cxH CX0 P w K mg base N x (defScope st) f cdv A outer s H E p) (defBody st) t ∧ t { nx := fun _ H' => Q .non H', rt := Q } (L2.start N vs) H) :
    FnEL P w K mg base D (k + 1) f fd ps sp := by
  obtain ⟨oc, od, dV, kV, doc, pm, an, cdv, ct, osl, efd, lk, hcd, hd, hk⟩ := F.ex
  subst efd
  refine ⟨len, fun A outer s H args us vs Q E p room hot cls pin e0 hb rv hsp => ?_⟩
  have arity := len _ _ _ _ _ hsp
  have inK : K.In s.heap := e0.mod.kin.keeps (fun b o y => (e0.bs b o y).1)
  have nolim : s.heap.NoLimit := e0.mod.nolimit.keeps (fun b o y => (e0.bs b o y).1)
  have own : ∀ y ∈ ps.zip us, (defScope st).names.lookup y.1 = some .local ∨ ((defScope st).names.lookup y.1 = some .cell ∧ ((cellsFrom (s.heap.objs.size + 1) (defScope st).names []).lookup y.1).isSome = true) := by
    rintro ⟨nm, u⟩ hy
    cases S.par nm (List.of_mem_zip hy).1 with
    | inl q => exact Or.inl q
    | inr q => exact Or.inr ⟨q, PySem.W.cellsFrom_some _ _ _ (Or.inl q)⟩
  refine codeAny_call_function room.depth (inK _ _ lk) rfl S.co S.gen rfl (PySem.W.codeRec_of inK hcd) (hb _ _ _ _ ?_)
  refine wpAny_newFunctionEnv_cells S.kind own fun env he s1 started => ?_
  subst he
  refine ⟨nolim.keeps started.toInCall.keep, codeAny_func ?_⟩
  obtain ⟨t, walk, ask⟩ := body cdv A outer s H vs Q E p hot cls (room.deeper _) hsp
  have I : Inv (L2H.cxH CX0 P w K mg base N x (defScope st) f cdv A outer s H E p) [] (L2.start N vs) H s1 := L2H.inv_startH S pin e0 arity rv started
  refine wpAny_mono (walk.run [] s1 (L2.start N vs) H _ I ask) ?_ (fun _ _ out => out)
  intro fl s2 ended
  have back : ∀ {σ2 : L2.St} {H2 : Hp} {v : V} {u : Value}, Inv (L2H.cxH CX0 P w K mg base N x (defScope st) f cdv A outer s H E p) [] σ2 H2 s2 → RelV v u → Q v H2 → CE outer P w H s Q u s2 := by
    intro σ2 H2 v u J r q
    exact ⟨v, H2, J.os, J.bare, J.base, J.hok, r, q⟩
  cases fl with
  | next =>
    obtain ⟨σ2, H2, J, q⟩ := ended
    exact back (v := V.non) (u := Value.none) J rfl q
  | ret u =>
    obtain ⟨v, σ2, H2, J, r, q⟩ := ended
    exact back J r q
  | brk =>
    obtain ⟨_, _, _, q⟩ := ended
    exact q.elim
  | cont =>
    obtain ⟨_, _, _, q⟩ := ended
    exact q.elim
section
variable {X : Cx} {k : Nat} {f D a : Addr} {fd : FuncData} {oe : Obj} {ps : List Str} {sp : Addr → Sp} {x : Str} {q pos : Pos} {e : Expr} {es : List Expr} {t : TA}
/-- its call within the suite -/
theorem pe_callEL (F : FnEL X.prog X.w X.K X.mg X.base D k f fd ps sp) (hr : L2H.RoomH k X.A) (hh : X.A.handled = some (.ref a)) (hp : (a, oe) ∈ X.pn) (hz : Zc (.ref D) none oe) (hf : ∃ vs, oe.data = .fields vs)
    (hg : Gl X x) (hm : X.mg x = some (.ref f)) (hk : PySem.W.keepIn X.K (.ref f) = true) (hb : Binds X.K fd ps []) (ha : PA X (e :: es) t) (hdb : (x == ("__debug__" : Str)) = false := by decide)
    (he : starEach (e :: es) X.env = (false, eval e X.env) :: starEach es X.env := by rfl) (hpl : (backTo pos (starEach es X.env)).any (·.1) = false := by rfl) :
    PE X (.Call (.Name x q) (e :: es) [] pos) (fun σ H Q => t σ H fun vs H1 => sp a vs H1 Q E0) := by
  constructor
  intro pins s σ H Q I h
  refine wpAny_Call_Name_kw (ld_glob I hg hm ?_ hdb)
  refine PySem.W.callWith_K (h₀ := X.base) I.ok.mod.kin hk (thn (ha.run pos pins s σ H _ I h) ?_) he hpl
  intro us s1 got
  obtain ⟨vs, H1, I1, r, q1⟩ := got
  refine ⟨I1.kIn, ?_⟩
  obtain ⟨ws, ew⟩ := hf
  have hot : X.A.handled = some (.ref (a, oe).1) ∧ ∃ vs, (a, oe).2.data = .fields vs := ⟨hh, ws, ew⟩
  have arity : us.length = ps.length := (r.length.symm).trans (F.len _ _ _ _ _ q1)
  have bs := hb s1 us I1.kIn ((congrArg List.length (List.append_nil us)).trans arity)
  rw [List.append_nil] at bs
  have P1 := I1.pin (a, oe) (List.mem_append_left _ hp)
  have pinned : L2H.PinOk X.stack H1 s1 (a, oe) := by
    refine ⟨P1.1, P1.2.1, fun hm => ?_, P1.2.2.2.2⟩
    cases List.mem_cons.mp (I1.stkSub a hm) with
    | inl y => exact P1.2.2.1 y
    | inr y => exact P1.2.2.2.1 y
  refine wpAny_call (codeAny_mono (F.run X.A X.stack s1 H1 ⟨us, []⟩ us vs Q E0 (a, oe) hr hot hz pinned I1.env0 bs r q1) ?_)
  intro rr s2 hq
  match rr, hq with
  | .ok (.ret u), hq => exact I1.after hq
  | .ok .next, hq => exact hq.elim
  | .ok .brk, hq => exact hq.elim
  | .ok .cont, hq => exact hq.elim
  | .error u, hq => exact pass0 pins σ H1 s1 u s2 I1 hq
end
theorem takes_noneNL {X : Cx} : L2.Takes X (fun _ _ _ _ => False) := by
  rintro _ _ ⟨_, _, _, _, _, _, _, _, _, _, _, _, _, _, _, _, z⟩
  exact z.elim
section
variable {X : Cx} {k j : Nat} {x : Str} {ps : List Str} {sp : Sp} {e : Expr} {es : List Expr} {t : TA} {p pos : Pos} {W : WX} {E : XK}
/-- a call of a def that may refuse: out of this def -/
theorem pe_gdXL (G : Gd (CXL X.prog X.w) X.prog X.w X.K X.mg X.base j x ps sp) (hr : Room k X.A) (tk : L2.Takes X W) (hW : ∀ cls d σ H, E cls d H → W cls d σ H) (ha : PA X (e :: es) t) (hjk : j ≤ k := by decide) (hg : Gl X x := by rfl) (hdb : (x == ("__debug__" : Str)) = false := by decide)
    (he : starEach (e :: es) X.env = (false, eval e X.env) :: starEach es X.env := by rfl) (hpl : (backTo pos (starEach es X.env)).any (·.1) = false := by rfl) :
    PE X (.Call (.Name x p) (e :: es) [] pos) (tCall sp [] E t) := by
  obtain ⟨f, fd, F, g, kp, b⟩ := G
  exact pe_call F (hr.mono hjk) hg g kp b .nil (L2.passes_call tk hW) ha hdb he hpl
/-- .. in a try -/
theorem pe_gdSL (G : Gd (CXL X.prog X.w) X.prog X.w X.K X.mg X.base j x ps sp) (hr : Room k X.A) (tk : L2.Takes X W) (ha : PA X (e :: es) t) (hjk : j ≤ k := by decide) (hg : Gl X x := by rfl) (hdb : (x == ("__debug__" : Str)) = false := by decide)
    (he : starEach (e :: es) X.env = (false, eval e X.env) :: starEach es X.env := by rfl) (hpl : (backTo pos (starEach es X.env)).any (·.1) = false := by rfl) :
    PE X (.Call (.Name x p) (e :: es) [] pos) (tCallS sp (WE W) t) := by
  obtain ⟨f, fd, F, g, kp, b⟩ := G
  exact pe_callS F (hr.mono hjk) hg g kp b (fun σ => L2.passAt tk σ) ha hdb he hpl
end
/-- the law's _law_kind, for each class of refusals -/
def GdKindL (P : Program) (w : World) (K : PySem.W.Frag) (mg : Str → Option Value) (base : Heap) : Prop :=
  ∃ f fd, (∀ D j, KindAt K D j → FnEL P w K mg base D 1 f fd ["e"] (spKind K j)) ∧ mg "_law_kind" = some (.ref f) ∧ PySem.W.keepIn K (.ref f) = true ∧ Binds K fd ["e"] []
section
variable {X : Cx} {k : Nat} {a : Addr} {oe : Obj} {pn : List (Addr × Obj)} {cls : Value} {d : Option Addr} {e : Expr} {t : TA} {q pos : Pos}
theorem pe_kindL (G : GdKindL X.prog X.w X.K X.mg X.base) (hr : Room k X.A) (hz : Zc cls d oe) (hf : ∃ vs, oe.data = .fields vs) (ha : PA (X.suite a ((a, oe) :: pn)) [e] t) (hk : 1 ≤ k := by decide) (hg : Gl X "_law_kind" := by rfl)
    (he : starEach [e] X.env = (false, eval e X.env) :: starEach [] X.env := by rfl) :
    PE (X.suite a ((a, oe) :: pn)) (.Call (.Name "_law_kind" q) [e] [] pos) (tKind X.K cls d a t) := by
  constructor
  intro pins s σ H Q I ⟨D, j, e1, e2, kd, h⟩
  subst e1 e2
  obtain ⟨f, fd, F, g, kp, b⟩ := G
  have r1 := (hr.mono hk)
  have room : L2H.RoomH 1 (X.suite a ((a, oe) :: pn)).A := ⟨r1.dp, r1.un⟩
  exact (pe_callEL (X := X.suite a ((a, oe) :: pn)) (F D j kd) room rfl List.mem_cons_self hz hf hg g kp b ha (by decide) he rfl).run pins s σ H Q I h
end
end Ef
namespace Ef
open PySem PySem.Spec PyProof.Rows L2
/-! ### an exception out of a comprehension -/
theorem frames_but {C : Addr} {h1 h2 B B2 : Heap} (same : ∀ b, b ≠ C → h2.get? b = h1.get? b) (less : ∀ b, B.get? b = none → B2.get? b = none) : ∀ {l : List Env}, h1.FunFrames B l → (∀ b ∈ frs l, b ≠ C) → h2.FunFrames B2 l
  | [], _, _ => trivial
  | e :: l, ⟨k, ⟨L, o, f1, f2, f3, f4⟩, r⟩, n => by
    have hL : L ∈ frs (e :: l) := List.mem_filterMap.mpr ⟨e, List.mem_cons_self, f1⟩
    refine ⟨k, ⟨L, o, f1, less L f2, (same L (n L hL)).trans f3, f4⟩, frames_but same less r fun b hb => n b ?_⟩
    obtain ⟨x, hx, ex⟩ := List.mem_filterMap.mp hb
    exact List.mem_filterMap.mpr ⟨x, List.mem_cons_of_mem _ hx, ex⟩
/-- the frame is noted, whatever flight the traceback has -/
theorem noted_any {M : Model} {A : Around} {E : Value → Shared → Prop} {s : Shared} {Z : Obj → Prop} {base : Heap} {env : Env} {outer : List Env} {L e : Addr} {fl : Value} {Q : Unit → Shared → Prop} (st : HandSPX.Steady Z) (fr : A.frames = some (env :: outer)) (ef : env.frame = some L)
    (keep : base.StaysIn s.heap) (new : base.get? e = none) (ff : s.heap.FunFrames base (env :: outer)) (tr : HandSPX.TracedZ s.heap base e Z fl)
    (done : ∀ h', HandSPX.HeldZ base (env :: outer) e Z L h' → s.heap.UpToSlots h' → Q () { s with heap := h' }) : wpAny M A (noteFrame (.ref e) env) Q E s := by
  have tr0 := tr
  obtain ⟨oE, fs, T, oT, ts, gE, zE, dE, e1, nT, neT, gT, dT, e3⟩ := tr
  unfold noteFrame
  simp only [ef]
  refine wpAny_bind (wpAny_field gE dE e1 ?_)
  rw [if_pos (by simp : (Value.ref T != Value.none) = true)]
  refine wpAny_bind (wpAny_field gT dT e3 ?_)
  by_cases same : (fl == rawInt L) = true
  · rw [if_pos same]
    have efl : fl = rawInt L := beq_iff_eq.mp same
    rw [efl] at tr0
    exact wpAny_pure (done s.heap ⟨keep, new, ff, tr0⟩ (Heap.UpToSlots.refl _))
  · rw [if_neg same]
    refine wpAny_bind (wpAny_setField gT dT (Array.getElem?_eq_some_iff.mp e3).1 ?_)
    have far : ∀ b, b ≠ T → (s.heap.update T (Obj.mapFields (·.setIfInBounds 3 Value.none))).get? b = s.heap.get? b := fun b nb => Heap.get?_update_other _ _ (Ne.symm nb)
    have notT : ∀ b o, s.heap.get? b = some o → (∀ vs, o.data ≠ .fields vs) → b ≠ T := by
      intro b o gb nf q
      rw [q, gT] at gb
      cases gb
      exact nf ts dT
    refine HandSPX.wpAny_entryZ st fr (ff.of_keeps fun b o gb nf => ⟨o, (far b (notT b o gb nf)).trans gb, rfl⟩) ef ((far e (Ne.symm neT)).trans gE) ?_ new dE (Array.getElem?_eq_some_iff.mp e1).1 zE ?_
    · intro b o gb
      refine (far b fun q => ?_).trans (keep b o gb)
      rw [q, nT] at gb
      cases gb
    · rintro h' ⟨n1, n2, n3, n4⟩
      exact done h' ⟨n1, new, n2, n3⟩ fun b o gb nf => n4 b o ((far b (notT b o gb nf)).trans gb) nf
theorem note_frame_eq {e f : Env} (h : e.frame = f.frame) (u : Value) : noteFrame u e = noteFrame u f := by
  unfold noteFrame PySem.frameOf
  rw [h]
/-- an exception of a call within the block: noted, the block's names let go, thrown on, out of the def -/
theorem comp_out {X : Cx} {pins : List (Addr × Obj)} {σ : L2.St} {H : Hp} {s s' : Shared} {E : XK} {E1 : Value → Shared → Prop} {C acc : Addr} {u : Value} {use : Option (Value → Sem Unit)} {Qf : Value → Shared → Prop} {ce : Env}
    (I : Inv X pins σ H s) (hs : X.stack = X.env :: X.outer) (hf : X.env.frame = some X.env.locals) (hex : X.ex = [])
    (hx : X.xe = fun e s2 => wpAny (model X.prog X.w) X.A (leaving X.env e) (fun _ s3 => L2.CX X.prog X.w X.outer X.H_0 X.s_0 E e s3) E1 s2)
    (fC : FpOk X pins H C) (nsC : ∃ m, s.heap.Ns C m) (hce : ce.frame = X.env.frame) (c : L2.CX X.prog X.w X.stack H s E u s') :
    notedBy (model X.prog X.w) X.A ce (fun e s2 => compPost (model X.prog X.w) X.A X.xe use Qf (.ref acc) C (.error e) s2) u s' := by
  obtain ⟨a, B, H2, cls, d, rfl, fl, hok, ub, na, os, bare, wish⟩ := c
  obtain ⟨m, oC, es, ep, gC, dC, keysC⟩ := nsC
  obtain ⟨f0, f1, f2, f3, f4, f5⟩ := fC
  have offC : C ∉ frs X.stack := fun y => (List.mem_cons.mp (I.stkSub C y)).elim f1 f2
  have BC : B.get? C = some oC := ub.keep C oC gC f0 offC
  have HC : H2 C = none := ub.free C oC gC f0
  have inB : B.StaysIn s'.heap := fl.1
  -- the state without the exception
  obtain ⟨G, gYes, gNo⟩ := restrict s'.heap fun b => (B.get? b).isSome || decide (b ∈ frs X.stack)
  have BG : ∀ b o, B.get? b = some o → G.get? b = some o := by
    intro b o y
    rw [gYes b (by rw [y]; rfl)]
    exact inB b o y
  have FG : ∀ b, b ∈ frs X.stack → G.get? b = s'.heap.get? b := by
    intro b y
    refine gYes b ?_
    rw [decide_eq_true y, Bool.or_true]
  have GS : ∀ b o, G.get? b = some o → s'.heap.get? b = some o ∧ (b ∉ frs X.stack → B.get? b = some o) := by
    intro b o y
    cases q : ((B.get? b).isSome || decide (b ∈ frs X.stack)) with
    | false =>
      rw [gNo b q] at y
      cases y
    | true =>
      rw [gYes b q] at y
      refine ⟨y, fun nf => ?_⟩
      rw [decide_eq_false nf, Bool.or_false] at q
      obtain ⟨o2, y2⟩ := Option.isSome_iff_exists.mp q
      have y3 := inB b o2 y2
      rw [y] at y3
      cases y3
      exact y2
  have IG : Inv X pins σ H2 { s with heap := G, gens := s'.gens, drawn := s'.drawn, toks := s'.toks } := by
    refine I.call (ch := []) ⟨fun b o y n nf _ => BG b o (ub.keep b o y n nf), fun b o y n inf _ => ?_, fun b o y n _ => ub.free b o y n, fun b o y _ => ?_, ub.tups, ub.frzs, ub.tbls⟩ (hok.kept BG) bare (fun _ y => nomatch y)
    · obtain ⟨sl, q⟩ := ub.slot b o y inf
      exact ⟨sl, (FG b inf).trans q⟩
    · by_cases inf : b ∈ frs X.stack
      · obtain ⟨sl, q⟩ := ub.slot b o y inf
        exact ⟨_, (FG b inf).trans q⟩
      · obtain ⟨o2, q⟩ := ub.there b o y inf
        exact ⟨o2, BG b o2 q⟩
  have I2 : Inv X pins σ H2 { s with heap := PySem.W.hideAll G [C], gens := s'.gens, drawn := s'.drawn, toks := s'.toks } :=
    IG.turned (h' := PySem.W.hideAll G [C]) (t' := s'.toks) (fun b o nb y => PySem.W.hideAll_get _ y (by simpa using nb)) HC f1 f3 f4 f5
  -- noted
  unfold notedBy
  rw [note_frame_eq hce]
  have fr : X.A.frames = some (X.env :: X.outer) := by rw [I.ok.frames, hs]
  rw [hs] at fl
  refine HandSPX.looks_onZ Zc.steady fr hf fl fun h1 held up1 => ?_
  obtain ⟨k1, n1, ff1, tr1⟩ := held
  have C1 : h1.get? C = some oC := k1 _ _ BC
  refine ⟨m, ⟨oC, es, ep, C1, dC, keysC⟩, fun h2 sb cenv _ => ?_⟩
  have notC : ∀ b o vs, h1.get? b = some o → o.data = .fields vs → b ≠ C := by
    intro b o vs y dt q
    rw [q, C1] at y
    cases y
    rw [dC] at dt
    cases dt
  have hid : ∀ b, B.get? b = none → (PySem.W.hideAll B [C]).get? b = none := by
    intro b y
    cases q : (PySem.W.hideAll B [C]).get? b with
    | none => rfl
    | some o =>
      have := PySem.W.of_hideAll _ q
      rw [y] at this
      cases this
  have hidC : ∀ b o, (PySem.W.hideAll B [C]).get? b = some o → b ≠ C ∧ B.get? b = some o := by
    intro b o y
    refine ⟨fun q => ?_, PySem.W.of_hideAll _ y⟩
    rw [q, PySem.W.hideAll_none [C] (by simp)] at y
    cases y
  have k2 : (PySem.W.hideAll B [C]).StaysIn h2 := fun b o y => (sb.2 b (hidC b o y).1).trans (k1 b o (hidC b o y).2)
  have n2 : (PySem.W.hideAll B [C]).get? a = none := hid a n1
  have ff2 : h2.FunFrames (PySem.W.hideAll B [C]) (X.env :: X.outer) := frames_but (fun b nb => sb.2 b nb) hid ff1 fun b y q => offC (by rw [hs, ← q]; exact y)
  have tr2 : HandSPX.TracedZ h2 (PySem.W.hideAll B [C]) a (Zc cls d) (rawInt X.env.locals) := by
    obtain ⟨oE, fs, T, oT, ts, gE, zE, dE, e1, nT, neT, gT, dT, e3⟩ := tr1
    exact ⟨oE, fs, T, oT, ts, (sb.2 a (notC a _ _ gE dE)).trans gE, zE, dE, e1, hid T nT, neT, (sb.2 T (notC T _ _ gT dT)).trans gT, dT, e3⟩
  -- thrown on
  have out : ∀ h3 fl3, (PySem.W.hideAll B [C]).StaysIn h3 → h3.FunFrames (PySem.W.hideAll B [C]) (X.env :: X.outer) → HandSPX.TracedZ h3 (PySem.W.hideAll B [C]) a (Zc cls d) fl3 → h2.UpToSlots h3 → X.xe (.ref a) { s' with heap := h3 } := by
    intro h3 fl3 k3 ff3 tr3 up3
    rw [hx]
    unfold leaving
    refine wpAny_bind (noted_any (s := { s' with heap := h3 }) Zc.steady fr hf k3 n2 ff3 tr3 fun h4 held4 up4 => ?_)
    refine HandSPX.landsZ held4 fun h5 fl5 up5 => ?_
    have noex : ∀ b, b ∉ X.ex := fun b y => by
      rw [hex] at y
      cases y
    have offF : ∀ b o, X.s_0.heap.get? b = some o → b ∉ X.fs → b ∉ frs X.stack := by
      intro b o y nf q
      rcases List.mem_cons.mp (I.stkSub b q) with z | z
      · have lt := Heap.lt_size y
        have ge := I.ok.above
        rw [z] at lt
        exact absurd (Nat.lt_of_lt_of_le lt ge) (Nat.lt_irrefl _)
      · exact nf z
    have nb2 : ∀ b o, (PySem.W.hideAll G [C]).get? b = some o → b ∉ frs X.stack → (PySem.W.hideAll B [C]).get? b = some o := by
      intro b o y nf
      have yG := PySem.W.of_hideAll _ y
      have nC : b ≠ C := fun q => by
        rw [q, PySem.W.hideAll_none [C] (by simp)] at y
        cases y
      exact PySem.W.hideAll_get _ ((GS b o yG).2 nf) (by simpa using nC)
    have upAll : (PySem.W.hideAll G [C]).UpToSlots h5 := by
      intro b o y nf
      have yG := PySem.W.of_hideAll _ y
      have nC : b ≠ C := fun q => by
        rw [q, PySem.W.hideAll_none [C] (by simp)] at y
        cases y
      obtain ⟨sl, y1⟩ := up1 b o (GS b o yG).1 nf
      have y2 := (sb.2 b nC).trans y1
      obtain ⟨sl2, y3⟩ := (up3.trans (up4.trans up5)) b { o with slots := sl } y2 nf
      exact ⟨sl2, y3⟩
    obtain ⟨g1, g2, ⟨_, _, g3⟩, g4⟩ := fl5
    refine ⟨a, PySem.W.hideAll B [C], H2, cls, d, rfl, ⟨g1, g2, g3, g4⟩, I2.inGround nb2, ⟨fun b o y n nf => nb2 b o (I2.base.keep b o y n nf (noex b)) (offF b o y nf), fun b o y inf => ?_, fun b o y n => I2.base.free b o y n (noex b), fun b o y nf => ?_, I2.base.tups, I2.base.frzs, I2.base.tbls⟩, na, os.trans I.os, bare, wish⟩
    · obtain ⟨_, o3, y3, nfd⟩ := I.ok.funs.mem inf
      rw [y] at y3
      cases y3
      obtain ⟨sl, y4⟩ := I2.base.slot b o y (I.ok.frf b inf) inf (noex b)
      obtain ⟨sl2, y5⟩ := upAll b { o with slots := sl } y4 nfd
      exact ⟨sl2, y5⟩
    · obtain ⟨o3, y3⟩ := I2.base.there b o y (noex b)
      exact ⟨o3, nb2 b o3 y3 (offF b o y nf)⟩
  obtain ⟨oE, fs, T, oT, ts, gE, zE, dE, e1, nT, neT, gT, dT, e3⟩ := id tr2
  unfold PySem.passOn
  refine wpAny_bind (wpAny_field gE dE e1 ?_)
  rw [if_neg (by simp : ¬ ((Value.ref T == Value.none) = true))]
  have fin : wpAny (model X.prog X.w) X.A (setFlight (.ref a) cenv.frame) (fun _ s4 => wpAny (model X.prog X.w) X.A (throw (.ref a) : Sem Value) (fun _ _ => False) X.xe s4) X.xe { s' with heap := h2 } :=
    HandSPX.setFlight_anyZ (s := { s' with heap := h2 }) k2 ff2 tr2 fun h3 q1 q2 q3 q4 => wpAny_throw (out h3 _ q1 q2 q3 q4)
  first
    | exact wpAny_bind (wpAny_pure (wpAny_bind fin))
    | exact wpAny_bind fin
/-- the block's context, with a wish for what is raised in it -/
abbrev blkX (X : Cx) (s : Shared) (H : Hp) (scope : Scope) (cenv : Env) (fp : List Addr) (xe : Value → Shared → Prop) : Cx := { X.blk s H scope cenv fp with xe := xe }
section
variable {X : Cx} {elt tg iter : Expr} {ifs : List Expr} {scope : Scope} {own : List (Str × Nat)} {pos pos' : Pos} {wi : TI} {g : TG} {tt : TT} {te : TE} {E : XK} {E1 : Value → Shared → Prop}
/-- what a def's context must be -/
structure DefX (X : Cx) (E : XK) (E1 : Value → Shared → Prop) : Prop where
  hs : X.stack = X.env :: X.outer
  hf : X.env.frame = some X.env.locals
  hex : X.ex = []
  hx : X.xe = fun e s2 => wpAny (model X.prog X.w) X.A (leaving X.env e) (fun _ s3 => L2.CX X.prog X.w X.outer X.H_0 X.s_0 E e s3) E1 s2
theorem lcx_core {pins : List (Addr × Obj)} {s : Shared} {σ : L2.St} {H : Hp} {Q : VK} {use : Option (Value → Sem Unit)} {Qf : Value → Shared → Prop} (dx : DefX X E E1) (calm : X.calm = true) (nd : X.N.Nodup) (I : Inv X pins σ H s) (walk : PI X tg iter wi) (ok : BlkOk X.N X.env.scope scope own)
    (tgt : ∀ s H C cl fp xe, PG (blkX X s H scope (compEnvC scope cl C X.env) fp xe) tg g) (tests : ∀ s H C cl fp xe, PTs (blkX X s H scope (compEnvC scope cl C X.env) fp xe) ifs tt)
    (item : ∀ s H C cl fp xe, Passes (CXL X.prog X.w) (blkX X s H scope (compEnvC scope cl C X.env) fp xe) E → PE (blkX X s H scope (compEnvC scope cl C X.env) fp xe) elt te) (fold : ∀ x, foldedSetIterable iter X.env x = pure x)
    (ask : tLc wi g tt te (own.map (·.2)) σ H Q)
    (fin : ∀ D C s' m H', Inv X pins σ H' s' → Q (.ref D) H' → s'.heap.Ns C m → FpOk X pins H' C → compPost (model X.prog X.w) X.A X.xe use Qf (.ref D) C (.ok .next) s') :
    wpAny (model X.prog X.w) X.A (comprehension (.ListComp elt [⟨tg, iter, ifs, 0⟩] scope pos) scope X.env pos' (newList []) false (eval iter X.env) use) Qf X.xe s := by
  have free : ∀ y ∈ scope.names, y.2 = .free → ∃ c, X.env.cells.lookup y.1 = some c := by
    intro y hy ey
    cases ok.free y hy ey with
    | inl k => exact I.ok.has _ (Or.inl k)
    | inr k => exact I.ok.has _ (Or.inr k)
  refine wpAny_comprehension_free (use := use) rfl fold (closure_ok free) ok.kind (fun y hy ey => by rw [ok.uniq y hy, ey]) ?_
  refine thn (walk.run pins s σ H _ I ask) fun xv s1 h1 => thn h1 fun itv s2 h2 => ?_
  obtain ⟨it, fp, tn, J, H2, eit, I2, T, st2, ok2, q⟩ := h2
  subst eit
  refine wpAny_newObj_type (newEnv_comp ?_) (show 0 ≤ sizeLine by decide)
  generalize eD : s2.heap.objs.size = D
  have newD : H2 D = none := I2.hok.fresh (Nat.le_of_eq eD)
  obtain ⟨W, ⟨m0, w0⟩, turn⟩ := q D newD
  generalize e3 : ({ s2 with heap := s2.heap.push { cls := .type "list", data := .seq ([] : List Value).toArray } } : Shared) = s3
  have I3 : Inv X pins σ (upd H2 D (.lst [])) s3 := by
    subst e3
    refine I2.laid (t' := s2.toks) (fun b o y => Heap.get?_push_of_some _ y) (Nat.le_of_eq eD) ⟨Nat.zero_le _, [], 0, .nil, ?_⟩
    subst eD
    exact Heap.get?_push_size _ rfl
  have heap3 : s3.heap = s2.heap.push { cls := .type "list", data := .seq ([] : List Value).toArray } := by subst e3; rfl
  have low : ∀ b ∈ fp, b < s2.heap.objs.size := by
    intro b hb
    obtain ⟨o, y, _⟩ := T.obj _ _ st2 b hb
    exact Heap.lt_size y
  have ok3 : ∀ b ∈ fp, FpOk X pins (upd H2 D (.lst [])) b ∧ b < s3.heap.objs.size := by
    intro b hb
    have lt := low b hb
    have ne : b ≠ D := by rw [← eD]; exact Nat.ne_of_lt lt
    refine ⟨⟨?_, (ok2 b hb).2⟩, ?_⟩
    · rw [upd_ne ne]
      exact (ok2 b hb).1
    · rw [heap3, Heap.size_push]
      exact Nat.lt_succ_of_lt lt
  have st3 : tn 0 s3.heap := T.keep _ _ _ st2 fun b _ o y => by rw [heap3]; exact Heap.get?_push_of_some _ y
  have I4 := block_start I3 ok nd ok3
  have ptg := tgt s3 (upd H2 D (.lst [])) s3.heap.objs.size (cellsFrom (s3.heap.objs.size + 1) scope.names (cloFrom X.env.cells scope.names [])) fp
  have pts := tests s3 (upd H2 D (.lst [])) s3.heap.objs.size (cellsFrom (s3.heap.objs.size + 1) scope.names (cloFrom X.env.cells scope.names [])) fp
  have pit := item s3 (upd H2 D (.lst [])) s3.heap.objs.size (cellsFrom (s3.heap.objs.size + 1) scope.names (cloFrom X.env.cells scope.names [])) fp
  show codeAny _ _ (.compStart (.ListComp elt [⟨tg, iter, ifs, 0⟩] scope pos) 0 (.ref it) (.ref D) (compEnvC scope (cellsFrom (s3.heap.objs.size + 1) scope.names (cloFrom X.env.cells scope.names [])) s3.heap.objs.size X.env))
    (compPost (model X.prog X.w) X.A X.xe use Qf (.ref D) s3.heap.objs.size) { s3 with heap := pushCells (s3.heap.push { cls := .type "dict", data := .dict #[] }) scope.names }
  have none3 : ∀ b ∈ fp, (upd H2 D (.lst [])) b = none := fun b hb => (ok3 b hb).1.1
  generalize ec : compEnvC scope (cellsFrom (s3.heap.objs.size + 1) scope.names (cloFrom X.env.cells scope.names [])) s3.heap.objs.size X.env = ce at I4 ptg pts pit ⊢
  have locals : ce.locals = s3.heap.objs.size := by subst ec; rfl
  have frame : ce.frame = X.env.frame := by subst ec; rfl
  generalize eH : upd H2 D (.lst []) = H3 at I3 I4 ptg pts pit w0 none3 ok3
  generalize e4 : ({ s3 with heap := pushCells (s3.heap.push { cls := .type "dict", data := .dict #[] }) scope.names } : Shared) = s4 at I4 ⊢
  have st4 : tn 0 s4.heap := T.keep _ _ _ st3 fun b _ o y => by subst e4; exact pushCells_keeps _ _ _ _ (Heap.get?_push_of_some _ y)
  obtain ⟨xeB, exe⟩ : ∃ xeB : Value → Shared → Prop, xeB = notedBy (model X.prog X.w) X.A ce (fun e s' => compPost (model X.prog X.w) X.A X.xe use Qf (.ref D) s3.heap.objs.size (.error e) s') := ⟨_, rfl⟩
  have I4x : Inv (blkX X s3 H3 scope ce fp xeB) [] (wipe σ (own.map (·.2))) H3 s4 := Inv.unwish (X := blkX X s3 H3 scope ce fp xeB) (E := fun _ _ => False) I4
  -- from the block's context to the def's
  have back : ∀ {σ' : L2.St} {H' : Hp} {s' : Shared} {pins' : List (Addr × Obj)}, Inv (blkX X s3 H3 scope ce fp xeB) pins' σ' H' s' → Inv X pins σ H' s' ∧ FpOk X pins H' s3.heap.objs.size ∧ ∃ m, s'.heap.Ns s3.heap.objs.size m := by
    intro σ' H' s' pins' J
    have JX : Inv X pins σ H' s' := I3.call' (ch := fp) J.os J.base J.hok J.bare fun b hb => ⟨(ok3 b hb).1.2.2.2.1, (ok3 b hb).1.2.1, (ok3 b hb).1.2.2.2.2.1, (ok3 b hb).1.2.2.2.2.2⟩
    have nC : H' s3.heap.objs.size = none := by
      have z : H' ce.locals = none := J.free
      rwa [locals] at z
    obtain ⟨m, hm, _⟩ := J.loc
    have hm : s'.heap.Ns ce.locals m := hm
    rw [locals] at hm
    exact ⟨JX, I3.fpOk (Nat.le_refl _) nC, m, hm⟩
  have pass : Passes (CXL X.prog X.w) (blkX X s3 H3 scope ce fp xeB) E := by
    intro pins' σ' H' s' e s'' J cx
    obtain ⟨JX, okC, nsC⟩ := back J
    show xeB e s''
    rw [exe]
    exact comp_out JX dx.hs dx.hf dx.hex dx.hx okC nsC frame cx
  have pg := ptg xeB
  have pt := pts xeB
  have pe := pit xeB pass
  have stay : ∀ {σ' : L2.St} {H' : Hp} {s' : Shared}, Inv (blkX X s3 H3 scope ce fp xeB) [] σ' H' s' → (∀ b ∈ fp, H' b = none) → ∀ b ∈ fp, FpOk (blkX X s3 H3 scope ce fp xeB) [] H' b := by
    intro σ' H' s' J hn b hb
    exact ⟨hn b hb, (J.ok.exf b hb).1, J.ok.exfs b hb, Or.inl hb, fun x c y => (J.ok.exf b hb).2 x c y, fun p hp => by cases hp⟩
  have loop : codeAny (model X.prog X.w) X.A (.compLoop (.ListComp elt [⟨tg, iter, ifs, 0⟩] scope pos) 0 (.ref it) (.ref D) ce) (compPost (model X.prog X.w) X.A X.xe use Qf (.ref D) s3.heap.objs.size) s4 := by
    refine compLoop_any (fun n s' => ∃ i H', Inv (blkX X s3 H3 scope ce fp xeB) [] (wipe σ (own.map (·.2))) H' s' ∧ tn i s'.heap ∧ (∀ b ∈ fp, H' b = none) ∧ W i n H') ?_ m0 ⟨0, H3, I4x, st4, none3, w0⟩
    rintro n s5 ⟨i, H5, I5, st5, n5, w5⟩
    rcases turn i n H5 w5 with ⟨stop, done⟩ | ⟨go, Nx, next, step⟩
    · have td := T.done (blkX X s3 H3 scope ce fp xeB) rfl rfl rfl calm i [] s5 _ H5 (fun _ _ => False) I5 (stay I5 n5) st5 stop
      refine thnF td fun r s6 hr => ?_
      obtain ⟨er, I6⟩ := hr
      subst er
      obtain ⟨I7, okC, m, hm⟩ := back I6
      exact fin D s3.heap.objs.size s6 m H5 I7 done hm okC
    · have ti := T.item (blkX X s3 H3 scope ce fp xeB) rfl rfl rfl calm i [] s5 _ H5 (fun _ _ => False) I5 (stay I5 n5) st5 go
      refine thnF ti fun r s6 hr => ?_
      obtain ⟨u, er, h6⟩ := hr
      subst er
      refine thnF h6 fun _ s7 h7 => ?_
      obtain ⟨x, H7, I7, r7, y7, st7, n7⟩ := h7
      have I7p := I7.pinned (stay I7 n7) (T.obj _ _ st7)
      rw [← exe]
      refine thn (pg.run _ s7 _ H7 x u _ I7p r7 (step x H7 y7)) fun _ s8 h8 => ?_
      obtain ⟨σ8, H8, I8, same8, q8⟩ := h8
      refine thn (pt.run _ s8 σ8 H8 _ I8 q8) fun b s9 h9 => ?_
      obtain ⟨H9, I9, q9⟩ := h9
      have ends : ∀ {s' : Shared} {H' : Hp}, Inv (blkX X s3 H3 scope ce fp xeB) ([] ++ pinsAt fp s7.heap) σ8 H' s' → Nx H' → ∃ m, m < n ∧ ∃ i H', Inv (blkX X s3 H3 scope ce fp xeB) [] (wipe σ (own.map (·.2))) H' s' ∧ tn i s'.heap ∧ (∀ b ∈ fp, H' b = none) ∧ W i m H' := by
        intro s' H' J nx
        obtain ⟨m', lt, w'⟩ := next H' nx
        have still : ∀ b ∈ fp, ∀ o, s7.heap.get? b = some o → s'.heap.get? b = some o ∧ H' b = none := by
          intro b hb o y
          have z := J.pin (b, o) (List.mem_append_right _ (List.mem_append_right _ (mem_pinsAt hb y)))
          exact ⟨z.1, z.2.1⟩
        have len8 : (wipe σ (own.map (·.2))).length = σ8.length := by rw [← same8, wipe_length]
        refine ⟨m', lt, i + 1, H', (J.unpinned (pins := [])).weak len8 (fun j v y => ?_), T.keep _ _ _ st7 fun b hb o y => (still b hb o y).1, fun b hb => ?_, w'⟩
        · rw [← same8] at y
          exact (wipe_some y).1
        · obtain ⟨o, y, _⟩ := T.obj _ _ st7 b hb
          exact (still b hb o y).2
      match b, q9 with
      | false, q9 =>
        simp only [Bool.false_eq_true, if_false] at q9 ⊢
        exact ends I9 q9
      | true, q9 =>
        simp only [if_true] at q9 ⊢
        refine thn (pe.run _ s9 σ8 H9 _ I9 q9) fun z s10 h10 => ?_
        obtain ⟨yv, H10, I10, r10, acc, eacc, lacc, nx⟩ := h10
        exact app_ok (X := blkX X s3 H3 scope ce fp xeB) I10 eacc lacc r10 fun s11 I11 => ends I11 nx
  exact codeAny_compStart_list loop (T.self X.A 0 _ _ _ st4 loop)
/-- y = [elt for ..], an item's refusal leaves the def -/
theorem ps_setLcX {i : Nat} {y : Str} {py spos : Pos} (dx : DefX X E E1) (calm : X.calm = true) (nd : X.N.Nodup) (hy : X.N[i]? = some y) (hyl : X.env.scope.names.lookup y = some .local)
    (swap : swapsWith (.ListComp elt [⟨tg, iter, ifs, 0⟩] scope pos) (some (.Name y py)) spos.line X.env = pure true) (walk : PI X tg iter wi) (ok : BlkOk X.N X.env.scope scope own)
    (tgt : ∀ s H C cl fp xe, PG (blkX X s H scope (compEnvC scope cl C X.env) fp xe) tg g) (tests : ∀ s H C cl fp xe, PTs (blkX X s H scope (compEnvC scope cl C X.env) fp xe) ifs tt)
    (item : ∀ s H C cl fp xe, Passes (CXL X.prog X.w) (blkX X s H scope (compEnvC scope cl C X.env) fp xe) E → PE (blkX X s H scope (compEnvC scope cl C X.env) fp xe) elt te) (fold : ∀ x, foldedSetIterable iter X.env x = pure x := by intro _; rfl) :
    PS X (.Assign [.Name y py] (.ListComp elt [⟨tg, iter, ifs, 0⟩] scope pos) spos) (tAsg (tLc wi g tt te (own.map (·.2))) (gName i)) := by
  constructor
  intro pins s σ H D I ask
  rw [exec_Assign_Name_used _ _ _ _ swap]
  refine wpAny_bind (wpAny_standAt (wpAny_bind ?_))
  show wpAny _ X.A (do
    let _ ← comprehension (.ListComp elt [⟨tg, iter, ifs, 0⟩] scope pos) scope X.env (firstIterPos [⟨tg, iter, ifs, 0⟩] pos) (newList []) false (eval iter X.env) (some (assign (.Name y py) X.env))) _ _ s
  have ask2 : tLc wi g tt te (own.map (·.2)) σ H (fun x H1 => gName i x σ H1 D.nx) := ask
  refine wpAny_bind (thn (lcx_core (Qf := fun _ s' => SP X pins D .next s') dx calm nd I walk ok tgt tests item fold ask2 ?_) fun _ s' done => wpAny_pure (wpAny_pure done))
  intro L C s' m H' J q hn fC
  show wpAny _ _ (assign (.Name y py) X.env (.ref L)) _ _ _
  refine wpAny_assign_Name (store_ok2 (v := V.ref L) J nd hy (Or.inl hyl) rfl ?_ (Or.inr hyl))
  intro s2 J2 hb
  obtain ⟨b, sb, eb⟩ := hb
  obtain ⟨f0, f1, f2, f3, f4, f5⟩ := fC
  have apart : C ≠ b := by
    cases eb with
    | inl z => rw [z]; exact f1
    | inr z => exact fun q => f4 y b z q.symm
  refine ⟨m, hn.sameBut sb apart, fun h3 sb3 => ?_⟩
  exact ⟨_, H', J2.turned (t' := s2.toks) (fun x o nx z => (sb3.2 x nx).trans z) f0 f1 f3 f4 f5, q⟩
end
section
variable {X : Cx} {k j : Nat} {x : Str} {ps : List Str} {sp : Sp} {e : Expr} {es : List Expr} {t : TA} {p pos : Pos} {E : XK}
/-- a call of a def that may refuse, by what passes -/
theorem pe_gdP (G : Gd (CXL X.prog X.w) X.prog X.w X.K X.mg X.base j x ps sp) (hr : Room k X.A) (hp : Passes (CXL X.prog X.w) X E) (ha : PA X (e :: es) t) (hjk : j ≤ k := by decide) (hg : Gl X x := by rfl) (hdb : (x == ("__debug__" : Str)) = false := by decide)
    (he : starEach (e :: es) X.env = (false, eval e X.env) :: starEach es X.env := by rfl) (hpl : (backTo pos (starEach es X.env)).any (·.1) = false := by rfl) :
    PE X (.Call (.Name x p) (e :: es) [] pos) (tCall sp [] E t) := by
  obtain ⟨f, fd, F, g, kp, b⟩ := G
  exact pe_call F (hr.mono hjk) hg g kp b .nil hp ha hdb he hpl
end
end Ef
namespace Ef
open PySem PySem.Spec PyProof.Rows L2 SX TL
/-! ### what a text writes -/
instance (w : List Nat) : Decidable (numOk w) := inferInstanceAs (Decidable (w ≠ [] ∧ w.length ≤ 12 ∧ (w.head? = some 48 → w = [48]) ∧ ∀ c ∈ w, 48 ≤ c ∧ c ≤ 57))
instance (ws : List Rat) : Decidable (FieldOk ws) := inferInstanceAs (Decidable (1 ≤ ws.length ∧ ws.length ≤ 8 ∧ ∀ q ∈ ws, 0 ≤ q.num ∧ q.num ≤ (q.den : Int)))
def val (w : List Nat) : Nat := NumText.digitsVal w
def pairR (p q : List Nat) : Option Rat := if numOk p ∧ numOk q ∧ val q ≠ 0 ∧ Nat.gcd (val p) (val q) = 1 then some (mkRat (val p : Nat) (val q)) else none
def partR (w : List Nat) : Option Rat := match spl [47] 0 [] w with
  | [p, q] => pairR p q
  | _ => none
def partsR : List (List Nat) → Option (List Rat)
  | [] => some []
  | w :: r => match partR w, partsR r with
    | some q, some qs => some (q :: qs)
    | _, _ => none
def readR (t : List Nat) : Option (List Rat) := match partsR (spl [32] 0 [] t) with
  | some ws => if FieldOk ws then some ws else none
  | none => none
theorem partsR_push : ∀ {l : List (List Nat)} {qs : List Rat} {w : List Nat} {q : Rat}, partsR l = some qs → partR w = some q → partsR (l ++ [w]) = some (qs ++ [q])
  | [], qs, w, q, h, e => by
    cases h
    show (match partR w, partsR [] with
      | some q, some qs => some (q :: qs)
      | _, _ => none) = _
    rw [e]
    rfl
  | v :: l, qs, w, q, h, e => by
    have h2 : (match partR v, partsR l with
      | some q, some qs => some (q :: qs)
      | _, _ => none) = some qs := h
    show (match partR v, partsR (l ++ [w]) with
      | some q, some qs => some (q :: qs)
      | _, _ => none) = _
    cases e1 : partR v with
    | none =>
      rw [e1] at h2
      cases h2
    | some a =>
      cases e2 : partsR l with
      | none =>
        rw [e1, e2] at h2
        cases h2
      | some as =>
        rw [e1, e2] at h2
        cases h2
        rw [partsR_push e2 e]
        rfl
theorem partsR_none : ∀ {l : List (List Nat)} {w : List Nat}, w ∈ l → partR w = none → partsR l = none
  | v :: l, w, h, e => by
    show (match partR v, partsR l with
      | some q, some qs => some (q :: qs)
      | _, _ => none) = none
    rcases List.mem_cons.mp h with h | h
    · rw [← h, e]
    · rw [partsR_none h e]
      cases partR v <;> rfl
theorem partsR_len : ∀ {l : List (List Nat)} {qs : List Rat}, partsR l = some qs → qs.length = l.length
  | [], qs, h => by
    cases h
    rfl
  | v :: l, qs, h => by
    have h2 : (match partR v, partsR l with
      | some q, some qs => some (q :: qs)
      | _, _ => none) = some qs := h
    cases e1 : partR v with
    | none =>
      rw [e1] at h2
      cases h2
    | some a =>
      cases e2 : partsR l with
      | none =>
        rw [e1, e2] at h2
        cases h2
      | some as =>
        rw [e1, e2] at h2
        cases h2
        show as.length + 1 = l.length + 1
        rw [partsR_len e2]
theorem spl_len (S : List Nat) : ∀ (l : List Nat) (k : Nat) (acc : List Nat), (∀ p ∈ spl S k acc l, p.length ≤ acc.length + l.length) ∧ (spl S k acc l).length ≤ l.length + 1
  | [], k, acc => by
    rw [spl_nil]
    refine ⟨fun p hp => ?_, Nat.le_refl _⟩
    rw [List.mem_singleton.mp hp]
    exact Nat.le_add_right _ _
  | c :: r, 0, acc => by
    cases h : pre S (c :: r) with
    | true =>
      rw [spl_hit h]
      obtain ⟨a, b⟩ := spl_len S r (S.length - 1) []
      refine ⟨fun p hp => ?_, by rw [List.length_cons, List.length_cons]; omega⟩
      rcases List.mem_cons.mp hp with hp | hp
      · rw [hp]
        exact Nat.le_add_right _ _
      · have := a p hp
        rw [List.length_cons]
        have z : ([] : List Nat).length = 0 := rfl
        omega
    | false =>
      rw [spl_miss h]
      obtain ⟨a, b⟩ := spl_len S r 0 (acc ++ [c])
      refine ⟨fun p hp => ?_, by rw [List.length_cons]; omega⟩
      have := a p hp
      rw [List.length_append, List.length_singleton] at this
      rw [List.length_cons]
      omega
  | c :: r, k + 1, acc => by
    have e : spl S (k + 1) acc (c :: r) = spl S k acc r := rfl
    rw [e]
    obtain ⟨a, b⟩ := spl_len S r k acc
    refine ⟨fun p hp => ?_, by rw [List.length_cons]; omega⟩
    have := a p hp
    rw [List.length_cons]
    omega
def spNumX (K : PySem.W.Frag) : Sp := fun vs H Q E => ∃ w : List Nat, vs = [.str (S w)] ∧ w.length ≤ 1000 ∧ (numOk w → Q (.int (val w : Nat)) H) ∧ (¬ numOk w → E (.ref (He.ga K "BadText")) none H)
def spPartX (K : PySem.W.Frag) : Sp := fun vs H Q E => ∃ w : List Nat, vs = [.str (S w)] ∧ w.length ≤ 1000 ∧ (∀ q, partR w = some q → ∀ p H', Same H H' → RatAt K H' (.ref p) q → Q (.ref p) H') ∧ (partR w = none → ∀ H', Same H H' → E (.ref (He.ga K "BadText")) none H')
def spReadX (K : PySem.W.Frag) : Sp := fun vs H Q E => ∃ t : List Nat, vs = [.str (S t)] ∧ t.length ≤ 900 ∧ (∀ ws, readR t = some ws → ∀ (p m : Addr) (H' : Hp), H p = none → Same H H' → FieldAt K H' p m ws → Q (.ref p) H') ∧ (readR t = none → ∀ H', Same H H' → E (.ref (He.ga K "BadText")) none H')
def spLNum : Sp := fun vs H Q _ => ∃ w : List Nat, vs = [.str (S w)] ∧ w.length ≤ 1000 ∧ (numOk w → Q (.int (val w : Nat)) H) ∧ (¬ numOk w → Q .non H)
def spLDue (K : PySem.W.Frag) : Sp := fun vs H Q _ => ∃ t : List Nat, vs = [.str (S t)] ∧ t.length ≤ 900 ∧ (∀ ws, readR t = some ws → ∀ l H', Same H H' → H l = none → RL K H' l ws → Q (.ref l) H') ∧ (readR t = none → ∀ H', Same H H' → Q .non H')
def spLTurned (K : PySem.W.Frag) : Sp := fun vs H Q _ => ∃ (l : Addr) (ls : List (List Nat)) (mode cell : Int), vs = [.ref l, .int mode, .int cell] ∧ H l = some (.lst ((ls.map S).map V.str)) ∧ 1 ≤ ls.length ∧ ls.length ≤ 9 ∧ (∀ w ∈ ls, w.length ≤ 25) ∧
  ∀ (m : Addr) (ms : List (List Nat)) (H' : Hp), Same H H' → H' m = some (.lst ((ms.map S).map V.str)) → ms.length ≤ 10 → (∀ w ∈ ms, w.length ≤ 25) → Q (.ref m) H'
theorem spl_ne (S : List Nat) : ∀ (l : List Nat) (k : Nat) (acc : List Nat), spl S k acc l ≠ []
  | [], k, acc => by
    rw [spl_nil]
    exact List.cons_ne_nil _ _
  | c :: r, 0, acc => by
    cases h : pre S (c :: r) with
    | true =>
      rw [spl_hit h]
      exact List.cons_ne_nil _ _
    | false =>
      rw [spl_miss h]
      exact spl_ne S r 0 _
  | c :: r, k + 1, acc => spl_ne S r k acc
theorem partsR_mem : ∀ {l : List (List Nat)} {qs : List Rat} {w : List Nat} {q : Rat}, partsR l = some qs → w ∈ l → partR w = some q → q ∈ qs
  | v :: l, qs, w, q, h, hw, e => by
    have h2 : (match partR v, partsR l with
      | some q, some qs => some (q :: qs)
      | _, _ => none) = some qs := h
    cases e1 : partR v with
    | none =>
      rw [e1] at h2
      cases h2
    | some a =>
      cases e2 : partsR l with
      | none =>
        rw [e1, e2] at h2
        cases h2
      | some as =>
        rw [e1, e2] at h2
        cases h2
        rcases List.mem_cons.mp hw with hw | hw
        · rw [hw, e1] at e
          cases e
          exact List.mem_cons_self
        · exact List.mem_cons_of_mem _ (partsR_mem e2 hw e)
theorem readR_eq (t : List Nat) : readR t = match partsR (spl [32] 0 [] t) with
    | some ws => if FieldOk ws then some ws else none
    | none => none := rfl
theorem readR_some {t : List Nat} {qs : List Rat} (h : partsR (spl [32] 0 [] t) = some qs) : readR t = if FieldOk qs then some qs else none := by
  rw [readR_eq, h]
theorem readR_bad {t w : List Nat} (hw : w ∈ spl [32] 0 [] t) (h : ∀ q, partR w = some q → ¬ (0 ≤ q.num ∧ q.num ≤ (q.den : Int))) : readR t = none := by
  cases e : partR w with
  | none => rw [readR_eq, partsR_none hw e]
  | some q =>
    cases e2 : partsR (spl [32] 0 [] t) with
    | none => rw [readR_eq, e2]
    | some qs =>
      rw [readR_some e2, if_neg]
      exact fun ok => h q e (ok.2.2 q (partsR_mem e2 hw e))
/-- a piece's number, or None -/
def pieceV (w : List Nat) : V := if numOk w then .int (val w : Nat) else .non
def pieceD (w : List Nat) : PyData := if numOk w then .int (val w : Nat) else .none
theorem piece_dp {K : PySem.W.Frag} {H : Hp} : ∀ ls : List (List Nat), DpAll K H (ls.map pieceV) (ls.map pieceD)
  | [] => .nil
  | w :: ls => by
    refine .cons ?_ (piece_dp ls)
    unfold pieceV pieceD
    split
    · exact .int _
    · exact .non
def dPairI (x y : Nat) : PyData := .tuple [.int (x : Int), .int (y : Int)]
theorem eqv_low {x y : Nat} (hy : y ≠ 0) : PyData.eqv (dRat (mkRat (x : Int) y)) (dPairI x y) = decide (Nat.gcd x y = 1) := by
  have en : (mkRat (x : Int) y).num = (x : Int) / ((Nat.gcd x y : Nat) : Int) := by rw [num_mk hy, Int.natAbs_natCast]
  have ed : (mkRat (x : Int) y).den = y / Nat.gcd x y := by rw [den_mk hy, Int.natAbs_natCast]
  show (((mkRat (x : Int) y).num == (x : Int)) && ((((mkRat (x : Int) y).den : Int) == (y : Int)) && true)) = _
  rw [en, ed, Bool.and_true]
  by_cases g : Nat.gcd x y = 1
  · rw [decide_eq_true g]
    generalize Nat.gcd x y = d at g
    subst g
    have e1 : (x : Int) / ((1 : Nat) : Int) = x := Int.ediv_one _
    rw [e1, Nat.div_one]
    simp
  · rw [decide_eq_false g]
    have gp : 0 < Nat.gcd x y := Nat.gcd_pos_of_pos_right _ (Nat.pos_of_ne_zero hy)
    have lt : y / Nat.gcd x y < y := Nat.div_lt_self (Nat.pos_of_ne_zero hy) (by omega)
    have ne : ((y / Nat.gcd x y : Nat) : Int) ≠ (y : Int) := by omega
    rw [beq_eq_false_iff_ne.mpr ne, Bool.and_false]
theorem foldl_lt : ∀ (w : List Nat) (a : Nat), (∀ c ∈ w, c ≤ 57) → w.foldl (fun acc c => acc * 10 + (c - 48)) a < (a + 1) * 10 ^ w.length
  | [], a, _ => by
    show a < (a + 1) * 1
    omega
  | c :: w, a, h => by
    have ih := foldl_lt w (a * 10 + (c - 48)) fun d hd => h d (List.mem_cons_of_mem _ hd)
    have hc := h c List.mem_cons_self
    show w.foldl (fun acc c => acc * 10 + (c - 48)) (a * 10 + (c - 48)) < (a + 1) * 10 ^ (w.length + 1)
    refine Nat.lt_of_lt_of_le ih ?_
    rw [Nat.pow_succ, Nat.mul_comm (10 ^ w.length) 10, ← Nat.mul_assoc]
    exact Nat.mul_le_mul_right _ (by omega)
theorem val_lt {w : List Nat} (h : numOk w) : val w < 10 ^ 12 := by
  have e := foldl_lt w 0 fun c hc => (h.2.2.2 c hc).2
  rw [Nat.zero_add, Nat.one_mul] at e
  exact Nat.lt_of_lt_of_le e (Nat.pow_le_pow_right (by decide) h.2.1)
theorem pair_shaped (x y : List Nat) : SeqAt.shaped (.list [pieceD x, pieceD y]) = true := by
  unfold pieceD
  split <;> split <;> rfl
theorem pair_none {x y : List Nat} (h : ¬ (numOk x ∧ numOk y)) : ([pieceD x, pieceD y].any fun z => PyData.eqv z .none) = true := by
  unfold pieceD
  by_cases ox : numOk x
  · rw [if_pos ox, if_neg fun z => h ⟨ox, z⟩]
    rfl
  · rw [if_neg ox]
    rfl
/-! ### a text times an int -/
theorem foldl_size {c : Array Nat} : ∀ (n : Nat) (acc : Array Nat), ((List.replicate n c).foldl (· ++ ·) acc).size = acc.size + n * c.size
  | 0, acc => by
    show acc.size = _
    omega
  | n + 1, acc => by
    rw [List.replicate_succ, List.foldl_cons, foldl_size n, Array.size_append, Nat.succ_mul]
    omega
def rRepS : R2 := fun x y H Q => ∃ (z : Str) (k : Int), x = .str z ∧ y = .int k ∧ z.length = 1 ∧ 2 ≤ k ∧ k ≤ 100 ∧ ∀ r : Str, r.length = k.toNat → Q (.str r) H
theorem op_rep_str {X : Cx} : OpR X (binaryOp .Mult) rRepS := by
  intro pins s σ H x y v u Q I rx ry h
  obtain ⟨z, k, rfl, rfl, hz, h2, h3, q⟩ := h
  obtain ⟨t, rfl⟩ := rx
  obtain ⟨t', rfl⟩ := ry
  have hl : (⟨(List.replicate k.toNat z.cps).foldl (· ++ ·) #[]⟩ : Str).length = k.toNat := by
    show ((List.replicate k.toNat z.cps).foldl (· ++ ·) #[]).size = _
    have e : z.cps.size = 1 := hz
    rw [foldl_size, e]
    show 0 + k.toNat * 1 = _
    omega
  refine PySem.P.mul_str ?_ (fun _ _ => ?_) (fun _ _ => ?_) ?_
  · rw [decide_eq_false (by omega), decide_eq_false (by omega)]
    rfl
  · rw [hz]
    have : (1 : Int) ≤ (2 ^ 63 - 1) / k := Int.le_ediv_of_mul_le (by omega) (by omega)
    omega
  · rw [hz]
    have e : ¬ (1 * k.toNat > sizeLine) := Nat.not_lt.mpr (Nat.le_trans (show 1 * k.toNat ≤ 100 by omega) (by decide))
    exact decide_eq_false e
  · have n1 : ¬ k < 1 := by omega
    rw [if_neg n1, if_neg (by rw [hz]; simp; omega)]
    refine ⟨?_, .str _, H, I.tok _, ⟨_, rfl⟩, q _ hl⟩
    rw [hl]
    exact Nat.le_trans (show k.toNat ≤ 100 by omega) (show 100 ≤ sizeLine by decide)
/-! ### lists of short texts -/
def T25 (xs : List V) : Prop := ∀ v ∈ xs, ∃ w : List Nat, v = .str (S w) ∧ w.length ≤ 25
theorem T25.app {xs ys : List V} (h : T25 xs) (g : T25 ys) : T25 (xs ++ ys) := fun v hv => (List.mem_append.mp hv).elim (h v) (g v)
theorem T25.take {xs : List V} (h : T25 xs) (n : Nat) : T25 (xs.take n) := fun v hv => h v (List.mem_of_mem_take hv)
theorem T25.drop {xs : List V} (h : T25 xs) (n : Nat) : T25 (xs.drop n) := fun v hv => h v (List.mem_of_mem_drop hv)
theorem T25.one {v : V} {xs : List V} {i : Nat} (h : T25 xs) (e : xs[i]? = some v) : T25 [v] := fun u hu => by
  rw [List.mem_singleton.mp hu]
  exact h v (List.mem_of_getElem? e)
theorem T25.strs {xs : List Str} (h : xs.all (fun x => decide (x.length ≤ 25)) = true) : T25 (xs.map V.str) := fun v hv => by
  obtain ⟨x, hx, rfl⟩ := List.mem_map.mp hv
  have l := of_decide_eq_true (List.all_eq_true.mp h x hx)
  exact ⟨x.cps.toList, by rw [S_tl], by rw [Array.length_toList]; exact l⟩
theorem T25.of {ls : List (List Nat)} (h : ∀ w ∈ ls, w.length ≤ 25) : T25 ((ls.map S).map V.str) := fun v hv => by
  obtain ⟨x, hx, rfl⟩ := List.mem_map.mp hv
  obtain ⟨w, hw, rfl⟩ := List.mem_map.mp hx
  exact ⟨w, rfl, h w hw⟩
theorem T25.out : ∀ {xs : List V}, T25 xs → ∃ ms : List (List Nat), xs = (ms.map S).map V.str ∧ ms.length = xs.length ∧ ∀ w ∈ ms, w.length ≤ 25
  | [], _ => ⟨[], rfl, rfl, fun w hw => (nomatch hw)⟩
  | v :: xs, h => by
    obtain ⟨w, rfl, hw⟩ := h v List.mem_cons_self
    obtain ⟨ms, rfl, el, hm⟩ := T25.out (xs := xs) fun u hu => h u (List.mem_cons_of_mem _ hu)
    refine ⟨w :: ms, rfl, congrArg Nat.succ el, fun u hu => ?_⟩
    rcases List.mem_cons.mp hu with hu | hu
    · rw [hu]
      exact hw
    · exact hm u hu
theorem cut_to {xs : List V} {i : Int} {a : Nat} (h : i = (a : Int)) : cutV xs none (some i) = xs.take a := by
  subst h
  unfold cutV
  rw [HT.sIx_none, HT.sIx_nat, List.drop_zero, Nat.sub_zero]
  by_cases z : a ≤ xs.length
  · rw [Nat.min_eq_left z]
  · rw [Nat.min_eq_right (by omega), List.take_of_length_le (Nat.le_refl _), List.take_of_length_le (by omega)]
theorem cut_from {xs : List V} {i : Int} {a : Nat} (h : i = (a : Int)) : cutV xs (some i) none = xs.drop a := by
  subst h
  unfold cutV
  rw [HT.sIx_none, HT.sIx_nat]
  by_cases z : a ≤ xs.length
  · rw [Nat.min_eq_left z]
    exact List.take_of_length_le (by rw [List.length_drop]; omega)
  · rw [Nat.min_eq_right (by omega), Nat.sub_self, List.take_zero, List.drop_eq_nil_of_le (by omega)]
theorem T25.ix {K : PySem.W.Frag} {H : Hp} {Q : VK} {p : Addr} {xs : List V} {z : Int} (t : T25 xs) (hp : H p = some (.lst xs)) (h0 : 0 ≤ z) (h1 : z < xs.length) (hQ : ∀ v, T25 [v] → Q v H) : rIxL K (.ref p) (.int z) H Q := by
  obtain ⟨n, rfl⟩ := Int.eq_ofNat_of_zero_le h0
  have hn : n < xs.length := by omega
  have e := List.getElem?_eq_getElem hn
  exact ⟨p, _, _, xs[n], rfl, rfl, SqL.of hp, atI_nat e, hQ _ (t.one e)⟩
theorem T25.cons {x : Str} {xs : List V} (h : x.length ≤ 25) (t : T25 xs) : T25 (.str x :: xs) := T25.app (T25.strs (xs := [x]) (by rw [List.all_cons, List.all_nil, Bool.and_true]; exact decide_eq_true h)) t
def odd15 : List Str := ["", "1", "1/", "/2", "1/1/1", "2/4", "0/2", "0/1", "1/1", "2/1", "-1/2", "1/0", "0/0", "01/2", "1/02"]
def odd3 : List Str := ["3/2", "+1/2", "1/2\t"]
theorem odd15_ok : T25 (odd15.map V.str) := T25.strs (by decide +kernel)
theorem odd3_ok : T25 (odd3.map V.str) := T25.strs (by decide +kernel)
theorem one_sl : (Str.ofString "1/").length = 2 := by decide +kernel
theorem catk {H : Hp} {Q : VK} {a b : Addr} {xs ys : List V} (ea : H a = some (.lst xs)) (eb : H b = some (.lst ys)) (n : xs.length + ys.length ≤ 1000) (h : ∀ p H', Same H H' → H' p = some (.lst (xs ++ ys)) → Q (.ref p) H') : rCat (.ref a) (.ref b) H Q :=
  ⟨a, b, xs, ys, rfl, rfl, ea, eb, Nat.le_trans n (by decide), fun p hp => h p _ (same_new hp) upd_same⟩
theorem slk {K : PySem.W.Frag} {H : Hp} {Q : VK} {a : Addr} {xs : List V} {lo hi : Option Int} (ea : H a = some (.lst xs)) (h : ∀ p H', Same H H' → H' p = some (.lst (cutV xs lo hi)) → Q (.ref p) H') : rSlL K (.ref a) lo hi H Q :=
  ⟨a, xs, rfl, SqL.of ea, fun p hp => h p _ (same_new hp) upd_same⟩
theorem noI {σ : L2.St} {H : Hp} {Q : Option Int → Hp → Prop} (h : Q none H) : tNoPart σ H Q := h
theorem ix_sign {H : Hp} {Q : VK} {z : Str} {i : Int} (hz : z.cps.toList.length = 16) (h0 : 0 ≤ i) (h1 : i < 16) (hQ : ∀ c, Q (.str (S [c])) H) : rIxS (.str z) (.int i) H Q := by
  obtain ⟨n, rfl⟩ := Int.eq_ofNat_of_zero_le h0
  have hn : n < z.cps.toList.length := by omega
  refine ⟨z, _, z.cps.toList[n], rfl, rfl, ?_, atI_nat (List.getElem?_eq_getElem hn), hQ _⟩
  have e : z.length = 16 := by
    show z.cps.size = 16
    rw [← Array.length_toList]
    exact hz
  rw [e]
  decide
theorem signs16 : (Str.ofString "0123456789/ -\n\t.").cps.toList.length = 16 := by decide +kernel
theorem txt_to {H : Hp} {Q : VK} {t : List Nat} {i : Int} {a : Nat} (l : t.length ≤ 1000) (e : i = (a : Int)) (h : Q (.str (S (t.take a))) H) : C8.rSlX (.str (S t)) none (some i) H Q := by
  subst e
  refine ⟨S t, rfl, by rw [S_len]; exact Nat.le_trans l (by decide), ?_⟩
  rw [SX.slice_to (Int.natCast_nonneg a), Int.toNat_natCast]
  exact h
theorem txt_from {H : Hp} {Q : VK} {t : List Nat} {i : Int} {a : Nat} (l : t.length ≤ 1000) (e : i = (a : Int)) (h : Q (.str (S (t.drop a))) H) : C8.rSlX (.str (S t)) (some i) none H Q := by
  subst e
  refine ⟨S t, rfl, by rw [S_len]; exact Nat.le_trans l (by decide), ?_⟩
  rw [SX.slice_from (Int.natCast_nonneg a), Int.toNat_natCast]
  exact h
theorem side_wr (c : Int) : Wr (sideOf c) := by
  obtain ⟨a1, a2⟩ := side_good c
  have b := bd_of (n := 6) (by decide) (by decide) a2 a1.neg1 a1.2
  have u := unit_in a1
  have b1 := b.1
  have b2 := b.2
  exact ⟨u.1, by omega, by omega⟩
theorem sum_len {n : Nat} : ∀ {ms : List (List Nat)}, (∀ w ∈ ms, w.length ≤ n) → ((ms.map S).map (·.length)).sum ≤ ms.length * n
  | [], _ => Nat.zero_le _
  | w :: ms, h => by
    have ih := sum_len (ms := ms) fun u hu => h u (List.mem_cons_of_mem _ hu)
    have e := h w List.mem_cons_self
    rw [List.map_cons, List.map_cons, List.sum_cons, S_len, List.length_cons, Nat.succ_mul]
    omega
theorem readR_ok {t : List Nat} {ws : List Rat} (h : readR t = some ws) : FieldOk ws := by
  rw [readR_eq] at h
  split at h
  · split at h
    · rename_i o
      cases h
      exact o
    · cases h
  · cases h
end Ef
namespace Ef
open PySem PySem.Spec PyProof.Rows L2 SX TL
def topS (i : Nat) : Stmt := PySem.Challenge.pw_echofield_k12_read.main.body.getD i (.Pass ⟨0, 0, 0, 0⟩)
abbrev s_Field_init : Stmt := inClass (topS 8) 0
abbrev s_Field_walls : Stmt := inClass (topS 8) 1
abbrev s_law_low : Stmt := topS 21
abbrev s_law_side : Stmt := topS 26
abbrev s_law_cell_at : Stmt := topS 17
abbrev s_law_turned : Stmt := topS 30
abbrev s_law_number : Stmt := topS 28
abbrev s_law_due : Stmt := topS 29
abbrev s_number_of : Stmt := topS 13
abbrev s_common : Stmt := topS 10
abbrev s_part_of : Stmt := topS 14
abbrev s_read : Stmt := topS 15
abbrev s_law_kind : Stmt := topS 19
abbrev s_law_one : Stmt := topS 20
abbrev s_law_whole : Stmt := topS 18
abbrev s_law_parts : Stmt := topS 25
abbrev s_law : Stmt := topS 31
section
variable {P : Program} {w : World} {K : PySem.W.Frag} {mg : Str → Option Value} {base : Heap}

theorem sc_Field_init : FnScope ["self", "walls", "top", "bottom"] ["self", "walls"] (defScope s_Field_init) := ⟨rfl, rfl, rfl, by decide +kernel, rfl, by decide +kernel, by decide +kernel⟩
theorem ok_Field_init {f : Addr} {fd : FuncData} (F : FnP K "__init__" "Field.__init__" s_Field_init f fd) (B : Bt mg) (TF : FTx K mg) : FnOk P w K mg base CX0 1 f fd ["self", "walls"] (spInit K) := by
  refine F.ok sc_Field_init (fun vs H Q E h => ?_) (fun cdv A outer s H vs Q E hr h => ?_)
  · obtain ⟨p, l, dx, ws, rfl, _⟩ := h
    rfl
  · obtain ⟨p, l, dx, ws, rfl, hp, hl, h1, h8, hu, k⟩ := h
    refine ⟨_, PSs.nox (pss_cons (ps_if (pt_not (pt_chain op_le op_le pe_int (pe_callB call_len_seq (by rfl) B.len (by decide +kernel) (pa_cons (pv 1) pa_nil)) pe_int)) (pss_one ps_never) pss_nil)
      (pss_cons (ps_for PassesOwn.never rfl (pi_list (pv 1)) (pg_tup (by rfl) (pgs_cons (pg_name (i := 2) sc_Field_init.nd rfl (Or.inl rfl)) (pgs_cons (pg_name (i := 3) sc_Field_init.nd rfl (Or.inl rfl)) pgs_nil))) (pss_one (ps_if (pt_not (pt_chain op_le op_le pe_int (pv 2) (pv 3))) (pss_one ps_never) pss_nil)))
      (pss_one (ps_fld (pv 0) (pe_lc (own := [("top", 2), ("bottom", 3)]) (g := (gTup K 2 (gCons (gName 2) (gCons (gName 3) gNil)))) (tt := tYes) rfl sc_Field_init.nd (pi_list (pv 1)) (blkOk_by (own := [("top", 2), ("bottom", 3)]) (N := ["self", "walls", "top", "bottom"]) (sc := defScope s_Field_init) (by decide +kernel)) (fun _ _ _ _ _ => (pg_tup (by rfl) (pgs_cons (pg_name (i := 2) sc_Field_init.nd rfl (Or.inl rfl)) (pgs_cons (pg_name (i := 3) sc_Field_init.nd rfl (Or.inl rfl)) pgs_nil)))) (fun _ _ _ _ _ => pts_nil) (fun _ _ _ _ _ => (pe_tup (pa_cons (pv 2) (pa_cons (pv 3) pa_nil))))) rfl)))), ?_⟩
    obtain ⟨xs, ex, rx⟩ := id hl
    -- the length
    refine ⟨_, rfl, l, xs, rfl, .inl (SqL.of ex), _, _, rfl, rfl, true, congrArg V.bl (decide_eq_true (by rw [rx.1]; omega)), ifT rfl ⟨_, _, rfl, rfl, true, congrArg V.bl (decide_eq_true (by rw [rx.1]; omega)), ifF rfl ?_⟩⟩
    -- each part
    refine ⟨_, rfl, l, rfl, ⟨xs, SqL.of ex⟩, for_list (K := K) (a := l) (xs := xs) (fun i σ H' => H' = H ∧ ∃ t b : Option V, σ = [some (.ref p), some (.ref l), t, b]) ⟨rfl, none, none, rfl⟩ (fun i σ H' _ ⟨e, _⟩ => by rw [e]; exact SqL.of ex) ?_ ?_⟩
    · rintro i v σ H' hi ⟨rfl, t, b, rfl⟩
      have hil : i < ws.length := by rw [← rx.1]; exact (List.getElem?_eq_some_iff.mp hi).1
      obtain ⟨a, rfl, ha⟩ := rx.2 i v ws[i] hi (List.getElem?_eq_getElem hil)
      obtain ⟨q0, q1⟩ := hu ws[i] (List.getElem_mem hil)
      refine ⟨a, _, rfl, ha, rfl, _, _, rfl, _, _, rfl, ⟨rfl, ?_⟩⟩
      refine ⟨_, rfl, _, _, rfl, rfl, true, congrArg V.bl (decide_eq_true q0), ifT rfl ⟨_, rfl, _, _, rfl, rfl, true, congrArg V.bl (decide_eq_true q1), ifF rfl ?_⟩⟩
      exact ⟨rfl, _, _, rfl⟩
    · rintro σ H' ⟨rfl, t, b, rfl⟩
      -- the parts kept
      refine ⟨_, rfl, l, rfl, ⟨xs, SqL.of ex⟩, fun D hD => ?_⟩
      refine lc_list (K := K) (a := l) (xs := xs) (fun i H2 => Same H' H2 ∧ RL K H2 D (ws.take i)) ⟨same_new hD, by rw [List.take_zero]; exact RL.new hD Rats.nil⟩ (fun i H2 _ ⟨s2, _⟩ => s2.seq (SqL.of ex)) ?_ ?_
      · rintro i v H2 hi ⟨s2, r2⟩
        have hil : i < ws.length := by rw [← rx.1]; exact (List.getElem?_eq_some_iff.mp hi).1
        obtain ⟨a, rfl, ha⟩ := rx.2 i v ws[i] hi (List.getElem?_eq_getElem hil)
        refine ⟨a, _, rfl, (kt_of s2).tup ha, rfl, _, _, rfl, _, _, rfl, rfl, rfl, yesQ (ifT rfl ?_)⟩
        refine ⟨_, rfl, _, rfl, (by show 2 ≤ sizeLine; decide), fun t ht => ?_⟩
        have r3 : RL K (upd H2 t (.tup [.int ws[i].num, .int (ws[i].den : Int)])) D (ws.take i) := r2.same (same_new ht)
        obtain ⟨acc, ea, ra⟩ := r3
        have el : acc.length = i := by rw [ra.1, List.length_take]; omega
        refine ⟨acc, ea, small1000 (by omega), same_but (s2.trans (same_new ht)) hD (fun b hb => upd_ne hb), ?_⟩
        rw [List.take_succ, List.getElem?_eq_getElem hil]
        exact RL.upd ea (ra.push ⟨t, rfl, SqT.of upd_same⟩)
      · rintro H2 ⟨s2, r2⟩
        have npD : p ≠ D := ne_of_none hp hD
        refine ⟨_, rfl, p, _, dx, [], rfl, s2 _ _ hp, TF.cl, TF.nP, (by show 0 < 1000; decide), ?_⟩
        rw [rx.1, List.take_length] at r2
        refine k D _ hD ⟨⟨dx, upd_same⟩, ?_⟩ (fun b o e hb => ?_)
        · obtain ⟨ys, ey, ry⟩ := r2
          refine ⟨ys, by rw [upd_ne npD.symm]; exact ey, ry.kt (Kt.obj (s2 _ _ hp))⟩
        · rw [upd_ne hb]
          exact s2 b o e

theorem sc_Field_walls : FnScope ["self"] ["self"] (defScope s_Field_walls) := ⟨rfl, rfl, rfl, by decide +kernel, rfl, by decide +kernel, by decide +kernel⟩
theorem ok_Field_walls {f : Addr} {fd : FuncData} (F : FnP K "walls" "Field.walls" s_Field_walls f fd) (B : Bt mg) (TF : FTx K mg) : FnOk P w K mg base CX0 1 f fd ["self"] (spWalls K) := by
  refine F.ok sc_Field_walls (fun vs H Q E h => ?_) (fun cdv A outer s H vs Q E hr h => ?_)
  · obtain ⟨p, l, ws, rfl, _⟩ := h
    rfl
  · obtain ⟨p, l, ws, rfl, ⟨⟨dx, e⟩, hl⟩, hn, k⟩ := h
    refine ⟨_, PSs.nox (pss_one (ps_ret (pe_callTy call_list_of (by rfl) B.list (by decide +kernel) (pa_cons (pe_fld (pv 0) rfl) pa_nil)))), ?_⟩
    obtain ⟨xs, ex, rx⟩ := hl
    refine ⟨_, rfl, p, _, dx, _, _, rfl, e, TF.cl, TF.nP, rfl, l, xs, rfl, .inl (SqL.of ex), fun m hm => ?_⟩
    exact k m _ hm (same_new hm) (RL.new hm rx)

theorem ok_Field_init_X {f : Addr} {fd : FuncData} (F : FnP K "__init__" "Field.__init__" s_Field_init f fd) (B : Bt mg) (TF : FTx K mg) (eF : ErrX K mg "NoField") : FnOk P w K mg base (CXN P w) 1 f fd ["self", "walls"] (spInitX K) := by
  refine F.ok sc_Field_init (fun vs H Q E h => ?_) (fun cdv A outer s H vs Q E hr h => ?_)
  · obtain ⟨p, l, dx, ws, rfl, _⟩ := h
    rfl
  · obtain ⟨p, l, dx, ws, rfl, hp, hl, hn, k, kE⟩ := h
    refine ⟨_, (pss_cons (ps_if (pt_not (pt_chain op_le op_le pe_int (pe_callB call_len_seq (by rfl) B.len (by decide +kernel) (pa_cons (pv 1) pa_nil)) pe_int)) (pss_one (L2N.ps_raise rfl (L2N.takes_of rfl rfl rfl rfl) (L2N.pmk_own PySem.F.excBase_ValueError eF.xc eF.g eF.k (raises_own eF.b eF.t) rfl))) pss_nil)
      (pss_cons (ps_for PassesOwn.leaving rfl (pi_list (pv 1)) (pg_tup (by rfl) (pgs_cons (pg_name (i := 2) sc_Field_init.nd rfl (Or.inl rfl)) (pgs_cons (pg_name (i := 3) sc_Field_init.nd rfl (Or.inl rfl)) pgs_nil))) (pss_one (ps_if (pt_not (pt_chain op_le op_le pe_int (pv 2) (pv 3))) (pss_one (L2N.ps_raise rfl (L2N.takes_of rfl rfl rfl rfl) (L2N.pmk_own PySem.F.excBase_ValueError eF.xc eF.g eF.k (raises_own eF.b eF.t) rfl))) pss_nil)))
      (pss_one (ps_fld (pv 0) (pe_lc (own := [("top", 2), ("bottom", 3)]) (g := (gTup K 2 (gCons (gName 2) (gCons (gName 3) gNil)))) (tt := tYes) rfl sc_Field_init.nd (pi_list (pv 1)) (blkOk_by (own := [("top", 2), ("bottom", 3)]) (N := ["self", "walls", "top", "bottom"]) (sc := defScope s_Field_init) (by decide +kernel)) (fun _ _ _ _ _ => (pg_tup (by rfl) (pgs_cons (pg_name (i := 2) sc_Field_init.nd rfl (Or.inl rfl)) (pgs_cons (pg_name (i := 3) sc_Field_init.nd rfl (Or.inl rfl)) pgs_nil)))) (fun _ _ _ _ _ => pts_nil) (fun _ _ _ _ _ => (pe_tup (pa_cons (pv 2) (pa_cons (pv 3) pa_nil))))) rfl)))), ?_⟩
    obtain ⟨xs, ex, rx⟩ := id hl
    -- the length
    refine ⟨_, rfl, l, xs, rfl, .inl (SqL.of ex), ?_⟩
    rw [rx.1]
    by_cases h1 : 1 ≤ ws.length
    rotate_left
    · exact ⟨_, _, rfl, rfl, false, congrArg V.bl (decide_eq_false (by omega)), ifF rfl ⟨false, rfl, ifT rfl (kE fun z => h1 z.1)⟩⟩
    by_cases h8 : ws.length ≤ 8
    rotate_left
    · exact ⟨_, _, rfl, rfl, true, congrArg V.bl (decide_eq_true (by omega)), ifT rfl ⟨_, _, rfl, rfl, false, congrArg V.bl (decide_eq_false (by omega)), ifT rfl (kE fun z => h8 z.2.1)⟩⟩
    refine ⟨_, _, rfl, rfl, true, congrArg V.bl (decide_eq_true (by omega)), ifT rfl ⟨_, _, rfl, rfl, true, congrArg V.bl (decide_eq_true (by omega)), ifF rfl ?_⟩⟩
    -- each part
    refine ⟨_, rfl, l, rfl, ⟨xs, SqL.of ex⟩, for_list (K := K) (a := l) (xs := xs) (fun i σ H' => H' = H ∧ (∀ j q, j < i → ws[j]? = some q → 0 ≤ q.num ∧ q.num ≤ (q.den : Int)) ∧ ∃ t b : Option V, σ = [some (.ref p), some (.ref l), t, b]) ⟨rfl, fun j q hj => by omega, none, none, rfl⟩ (fun i σ H' _ ⟨e, _⟩ => by rw [e]; exact SqL.of ex) ?_ ?_⟩
    · rintro i v σ H' hi ⟨rfl, hg, t, b, rfl⟩
      have hil : i < ws.length := by rw [← rx.1]; exact (List.getElem?_eq_some_iff.mp hi).1
      have e1 : ws[i]? = some ws[i] := List.getElem?_eq_getElem hil
      obtain ⟨a, rfl, ha⟩ := rx.2 i v ws[i] hi e1
      refine ⟨a, _, rfl, ha, rfl, _, _, rfl, _, _, rfl, ⟨rfl, ?_⟩⟩
      have no : ∀ z : ¬ (0 ≤ ws[i].num ∧ ws[i].num ≤ (ws[i].den : Int)), ¬ FieldOk ws := fun z y => z (y.2.2 _ (List.getElem_mem hil))
      by_cases q0 : 0 ≤ ws[i].num
      rotate_left
      · exact ⟨_, rfl, _, _, rfl, rfl, false, congrArg V.bl (decide_eq_false q0), ifF rfl ⟨false, rfl, ifT rfl (kE (no fun z => q0 z.1))⟩⟩
      by_cases q1 : ws[i].num ≤ (ws[i].den : Int)
      rotate_left
      · exact ⟨_, rfl, _, _, rfl, rfl, true, congrArg V.bl (decide_eq_true q0), ifT rfl ⟨_, rfl, _, _, rfl, rfl, false, congrArg V.bl (decide_eq_false q1), ifT rfl (kE (no fun z => q1 z.2))⟩⟩
      refine ⟨_, rfl, _, _, rfl, rfl, true, congrArg V.bl (decide_eq_true q0), ifT rfl ⟨_, rfl, _, _, rfl, rfl, true, congrArg V.bl (decide_eq_true q1), ifF rfl ?_⟩⟩
      refine ⟨rfl, fun j q hj eq => ?_, _, _, rfl⟩
      by_cases hji : j = i
      · subst hji
        rw [e1] at eq
        cases eq
        exact ⟨q0, q1⟩
      · exact hg j q (by omega) eq
    · rintro σ H' ⟨rfl, hg, t, b, rfl⟩
      have hu : Unit1 ws := fun q hq => by
        obtain ⟨j, hj, ej⟩ := List.mem_iff_getElem.mp hq
        exact hg j q (by rw [rx.1]; exact hj) (by rw [List.getElem?_eq_getElem hj, ej])
      -- the parts kept
      refine ⟨_, rfl, l, rfl, ⟨xs, SqL.of ex⟩, fun D hD => ?_⟩
      refine lc_list (K := K) (a := l) (xs := xs) (fun i H2 => Same H' H2 ∧ RL K H2 D (ws.take i)) ⟨same_new hD, by rw [List.take_zero]; exact RL.new hD Rats.nil⟩ (fun i H2 _ ⟨s2, _⟩ => s2.seq (SqL.of ex)) ?_ ?_
      · rintro i v H2 hi ⟨s2, r2⟩
        have hil : i < ws.length := by rw [← rx.1]; exact (List.getElem?_eq_some_iff.mp hi).1
        obtain ⟨a, rfl, ha⟩ := rx.2 i v ws[i] hi (List.getElem?_eq_getElem hil)
        refine ⟨a, _, rfl, (kt_of s2).tup ha, rfl, _, _, rfl, _, _, rfl, rfl, rfl, yesQ (ifT rfl ?_)⟩
        refine ⟨_, rfl, _, rfl, (by show 2 ≤ sizeLine; decide), fun t ht => ?_⟩
        have r3 : RL K (upd H2 t (.tup [.int ws[i].num, .int (ws[i].den : Int)])) D (ws.take i) := r2.same (same_new ht)
        obtain ⟨acc, ea, ra⟩ := r3
        have el : acc.length = i := by rw [ra.1, List.length_take]; omega
        refine ⟨acc, ea, small1000 (by omega), same_but (s2.trans (same_new ht)) hD (fun b hb => upd_ne hb), ?_⟩
        rw [List.take_succ, List.getElem?_eq_getElem hil]
        exact RL.upd ea (ra.push ⟨t, rfl, SqT.of upd_same⟩)
      · rintro H2 ⟨s2, r2⟩
        have npD : p ≠ D := ne_of_none hp hD
        refine ⟨_, rfl, p, _, dx, [], rfl, s2 _ _ hp, TF.cl, TF.nP, (by show 0 < 1000; decide), ?_⟩
        rw [rx.1, List.take_length] at r2
        refine k ⟨h1, h8, hu⟩ D _ hD ⟨⟨dx, upd_same⟩, ?_⟩ (fun b o e hb => ?_)
        · obtain ⟨ys, ey, ry⟩ := r2
          refine ⟨ys, by rw [upd_ne npD.symm]; exact ey, ry.kt (Kt.obj (s2 _ _ hp))⟩
        · rw [upd_ne hb]
          exact s2 b o e

theorem sc_law_low : FnScope ["top", "bottom", "one", "other", "rest"] ["top", "bottom"] (defScope s_law_low) := ⟨rfl, rfl, rfl, by decide +kernel, rfl, by decide +kernel, by decide +kernel⟩
theorem ok_law_low (D : Df K mg "_law_low" s_law_low) (B : Bt mg) : Gd CX0 P w K mg base 1 "_law_low" ["top", "bottom"] (spLow K) := by
  refine gd_of D sc_law_low (fun _ _ _ _ _ _ us hl => match us, hl with | [_, _], _ => rfl) (fun vs H Q E h => ?_) (fun f cdv A outer s H vs Q E hr h => ?_)
  · obtain ⟨t, b, rfl, _⟩ := h
    rfl
  · obtain ⟨t, b, rfl, hb, hl, k⟩ := h
    refine ⟨_, PSs.nox (pss_cons (ps_set (i := 2) sc_law_low.nd rfl (Or.inl rfl) (pe_callB call_abs (by rfl) B.abs (by decide +kernel) (pa_cons (pv 0) pa_nil)))
      (pss_cons (ps_set (i := 3) sc_law_low.nd rfl (Or.inl rfl) (pv 1))
      (pss_cons (ps_while PassesOwn.never (pt_cmpR op_gt (pv 3) pe_int (nomark _)) (pss_cons (ps_set (i := 4) sc_law_low.nd rfl (Or.inl rfl) (pe_op op_modN (pv 2) (pv 3))) (pss_cons (ps_set (i := 2) sc_law_low.nd rfl (Or.inl rfl) (pv 3)) (pss_one (ps_set (i := 3) sc_law_low.nd rfl (Or.inl rfl) (pv 4))))))
      (pss_one (ps_ret (pe_tup (pa_cons (pe_op op_fdivW (pv 0) (pv 2)) (pa_cons (pe_op op_fdivW (pv 1) (pv 2)) pa_nil)))))))), ?_⟩
    refine ⟨_, rfl, _, rfl, _, rfl, ?_⟩
    obtain ⟨c1, c2, e1, e2⟩ := low_facts t b b rfl hb hl
    refine ⟨fun m σ H1 => H1 = H ∧ ∃ (x y : Nat) (r : Option V), σ = [some (.int t), some (.int (b : Nat)), some (.int x), some (.int y), r] ∧ m = y ∧ Nat.gcd x y = Nat.gcd t.natAbs b,
      ⟨b, rfl, t.natAbs, b, none, congrArg (fun z => [some (V.int t), some (V.int (b : Nat)), some (V.int z), some (V.int (b : Nat)), none]) (abs_int t), rfl, rfl⟩, ?_⟩
    rintro m σ H1 ⟨rfl, x, y, r, rfl, rfl, eg⟩
    refine ⟨_, rfl, _, _, rfl, rfl, _, rfl, ?_⟩
    refine if2 (fun hy => ?_) (fun hy => ?_)
    · have hy : 0 < m := by omega
      refine ⟨fun σ' H' => H' = H1 ∧ ∃ r : Option V, σ' = [some (.int t), some (.int (b : Nat)), some (.int (m : Nat)), some (.int ((x % m : Nat) : Int)), r], ?_, ?_⟩
      · rintro σ' H' ⟨rfl, r', rfl⟩
        refine ⟨x % m, Nat.mod_lt _ hy, rfl, m, x % m, r', rfl, rfl, ?_⟩
        rw [← eg, Nat.gcd_comm x m, Nat.gcd_rec m x, Nat.gcd_comm m]
      · refine ⟨_, rfl, _, rfl, _, _, rfl, rfl, (by omega), ?_⟩
        refine ⟨_, rfl, _, rfl, rfl, some (.int ((x % m : Nat) : Int)), ?_⟩
        have ef : Int.fmod (x : Int) (m : Int) = ((x % m : Nat) : Int) := by rw [Int.fmod_eq_emod_of_nonneg _ (by omega)]; rfl
        exact congrArg (fun z => [some (V.int t), some (V.int (b : Nat)), some (V.int (m : Nat)), some (V.int z), some (V.int z)]) ef
    · have e : m = 0 := by omega
      subst e
      rw [Nat.gcd_zero_right] at eg
      subst eg
      refine ⟨_, rfl, _, rfl, _, _, rfl, rfl, c1, _, rfl, _, rfl, _, _, rfl, rfl, c2, (by show 2 ≤ sizeLine; decide), fun p hp => ?_⟩
      exact k p _ (same_new hp) (rat_new (congrArg V.int e1) (congrArg V.int e2))

theorem sc_law_side : FnScope ["cell", "bottom"] ["cell"] (defScope s_law_side) := ⟨rfl, rfl, rfl, by decide +kernel, rfl, by decide +kernel, by decide +kernel⟩
theorem ok_law_side (D : Df K mg "_law_side" s_law_side) (B : Bt mg) (g_law_low : Gd CX0 P w K mg base 1 "_law_low" ["top", "bottom"] (spLow K)) : Gd CX0 P w K mg base 2 "_law_side" ["cell"] (spSide K) := by
  refine gd_of D sc_law_side (fun _ _ _ _ _ _ us hl => match us, hl with | [_], _ => rfl) (fun vs H Q E h => ?_) (fun f cdv A outer s H vs Q E hr h => ?_)
  · obtain ⟨c, rfl, _⟩ := h
    rfl
  · obtain ⟨c, rfl, k⟩ := h
    refine ⟨_, PSs.nox (pss_cons (ps_set (i := 1) sc_law_side.nd rfl (Or.inl rfl) (pe_op op_add pe_int (pe_op op_mod (pv 0) pe_int)))
      (C8.pss_cut (ps_if (pt_cmpR op_eq (pe_op op_mod (pe_op op_fdiv (pv 0) pe_int) pe_int) pe_int (nomark _)) (pss_one (ps_set (i := 1) sc_law_side.nd rfl (Or.inl rfl) pe_int)) pss_nil)
      (pss_one (ps_ret (pe_gd g_law_low hr (pa_cons (pe_op op_mod (pe_op op_fdiv (pv 0) pe_int) (pe_op op_add (pv 1) pe_int)) (pa_cons (pv 1) pa_nil))))))), ?_⟩
    refine ⟨_, rfl, _, _, rfl, rfl, (by show (0 : Int) < 6; decide), _, _, rfl, rfl, ?_⟩
    refine ⟨fun σ' H' => H' = H ∧ ∃ n : Nat, σ' = [some (.int c), some (.int (n : Int))] ∧ n ≠ 0 ∧ n ≤ 1000 ∧ mkRat (c / 30 % ((n : Int) + 1)) n = sideOf c, ?_, ?_⟩
    · refine ⟨_, rfl, _, _, rfl, rfl, ⟨by decide, by decide⟩, _, _, rfl, rfl, (by show (0 : Int) < 5; decide), rfl, _, rfl, ?_⟩
      have m0 : 0 ≤ c % 6 := Int.emod_nonneg _ (by decide)
      have m1 : c % 6 < 6 := Int.emod_lt_of_pos _ (by decide)
      refine ifB (fun he => ?_) (fun he => ?_)
      · have e : c / 6 % 5 = 0 := V.int.inj (of_decide_eq_true he)
        refine ⟨rfl, 1, rfl, by decide, by decide, ?_⟩
        unfold sideOf
        rw [if_pos e]
        rfl
      · have e : ¬ c / 6 % 5 = 0 := deqF he
        obtain ⟨n, en⟩ := Int.eq_ofNat_of_zero_le (show 0 ≤ 1 + c % 6 by omega)
        refine ⟨rfl, n, congrArg (fun z => [some (V.int c), some (V.int z)]) en, by omega, by omega, ?_⟩
        unfold sideOf
        rw [if_neg e, en, Int.toNat_natCast]
    · rintro σ' H' ⟨rfl, n, rfl, n0, n1, er⟩
      refine ⟨_, rfl, _, _, rfl, rfl, ⟨by decide, by decide⟩, _, rfl, _, _, rfl, rfl, _, _, rfl, rfl, (by show (0 : Int) < (n : Int) + 1; omega), _, rfl, ?_⟩
      refine ⟨_, n, rfl, n0, Nat.lt_of_le_of_lt n1 (Nat.lt_of_lt_of_le (m := 2 ^ 10) (by decide) (Nat.pow_le_pow_right (by decide) (by decide))), fun r H' s hr => ?_⟩
      rw [er] at hr
      exact k r H' s hr

theorem sc_law_cell_at : FnScope ["script", "k"] ["script", "k"] (defScope s_law_cell_at) := ⟨rfl, rfl, rfl, by decide +kernel, rfl, by decide +kernel, by decide +kernel⟩
theorem ok_law_cell_at (D : Df K mg "_law_cell_at" s_law_cell_at) (B : Bt mg) : Gd CX0 P w K mg base 1 "_law_cell_at" ["script", "k"] (spCellAt K) := by
  refine gd_of D sc_law_cell_at (fun _ _ _ _ _ _ us hl => match us, hl with | [_, _], _ => rfl) (fun vs H Q E h => ?_) (fun f cdv A outer s H vs Q E hr h => ?_)
  · obtain ⟨a, ns, k, rfl, _⟩ := h
    rfl
  · obtain ⟨a, ns, k, rfl, hS, q⟩ := h
    refine ⟨_, PSs.nox (pss_cons (ps_if (pt_cmpR op_lt (pv 1) (pe_callB call_len_seq (by rfl) B.len (by decide +kernel) (pa_cons (pv 0) pa_nil)) (nomark _)) (pss_one (ps_ret (pe_ix ix_list (pv 0) (pv 1) (fun _ _ => rfl)))) pss_nil)
      (pss_one (ps_ret pe_int))), ?_⟩
    refine ⟨_, rfl, _, rfl, a, _, rfl, .inl hS, _, _, rfl, rfl, _, rfl, ?_⟩
    rw [List.length_map]
    refine if2 (fun hk => ?_) (fun hk => ?_)
    · have hk : k < ns.length := by omega
      refine ⟨_, rfl, _, rfl, a, _, _, .int (cellAt ns k), rfl, rfl, hS, atI_nat ?_, q⟩
      rw [List.getElem?_map, List.getElem?_eq_getElem hk]
      show some (V.int ns[k]) = some (V.int (ns.getD k 0))
      rw [List.getD_eq_getElem?_getD, List.getElem?_eq_getElem hk]
      rfl
    · have e : cellAt ns k = 0 := by
        unfold cellAt
        rw [List.getD_eq_getElem?_getD, List.getElem?_eq_none (by omega)]
        rfl
      rw [e] at q
      exact q

theorem sc_law_turned : FnScope ["words", "mode", "cell", "at", "odd"] ["words", "mode", "cell"] (defScope s_law_turned) := ⟨rfl, rfl, rfl, by decide +kernel, rfl, by decide +kernel, by decide +kernel⟩
theorem ok_law_turned (D : Df K mg "_law_turned" s_law_turned) (B : Bt mg) : Gd CX0 P w K mg base 1 "_law_turned" ["words", "mode", "cell"] (spLTurned K) := by
  refine gd_of D sc_law_turned (fun _ _ _ _ _ _ us hl => match us, hl with | [_, _, _], _ => rfl) (fun vs H Q E h => ?_) (fun f cdv A outer s H vs Q E hr h => ?_)
  · obtain ⟨l, ls, mode, cell, rfl, _⟩ := h
    rfl
  · obtain ⟨l, ls, mode, cell, rfl, el, h1, h9, hw, k⟩ := h
    refine ⟨_, PSs.nox (pss_cons (ps_set (i := 3) sc_law_turned.nd rfl (Or.inl rfl) (pe_op op_mod (pv 2) (pe_callB call_len_seq (by rfl) B.len (by decide +kernel) (pa_cons (pv 0) pa_nil))))
      (pss_cons (ps_set (i := 4) sc_law_turned.nd rfl (Or.inl rfl) (pe_lst (pa_cons pe_str (pa_cons pe_str (pa_cons pe_str (pa_cons pe_str (pa_cons pe_str (pa_cons pe_str (pa_cons pe_str (pa_cons pe_str (pa_cons pe_str (pa_cons pe_str (pa_cons pe_str (pa_cons pe_str (pa_cons pe_str (pa_cons pe_str (pa_cons pe_str pa_nil)))))))))))))))))
      (pss_cons (ps_set (i := 4) sc_law_turned.nd rfl (Or.inl rfl) (pe_op op_cat (pv 4) (pe_lst (pa_cons (pe_op op_add_str pe_str (pe_op op_rep_str pe_str pe_int)) (pa_cons (pe_op op_add_str pe_str (pe_op op_rep_str pe_str pe_int)) (pa_cons pe_str (pa_cons pe_str (pa_cons pe_str pa_nil))))))))
      (pss_cons (ps_if (pt_cmpR op_eq (pv 1) pe_int (nomark _)) (pss_one (ps_ret (pe_op op_cat (pe_op op_cat (pe_slice sl_list (pv 0) po_none (po_some (pv 3))) (pe_lst (pa_cons (pe_ix ix_list (pv 4) (pe_op op_mod (pe_op op_fdiv (pv 2) pe_int) pe_int) (fun _ _ => rfl)) pa_nil))) (pe_slice sl_list (pv 0) (po_some (pe_op op_add (pv 3) pe_int)) po_none)))) pss_nil)
      (pss_cons (ps_if (pt_cmpR op_eq (pv 1) pe_int (nomark _)) (pss_one (ps_ret (pe_op op_cat (pe_op op_cat (pe_slice sl_list (pv 0) po_none (po_some (pv 3))) (pe_lst (pa_cons (pe_ix ix_list (pv 0) (pv 3) (fun _ _ => rfl)) pa_nil))) (pe_slice sl_list (pv 0) (po_some (pv 3)) po_none)))) pss_nil)
      (pss_cons (ps_if (pt_cmpR op_eq (pv 1) pe_int (nomark _)) (pss_one (ps_ret (pe_op op_cat (pe_slice sl_list (pv 0) po_none (po_some (pv 3))) (pe_slice sl_list (pv 0) (po_some (pe_op op_add (pv 3) pe_int)) po_none)))) pss_nil)
      (pss_one (ps_ret (pv 0))))))))), ?_⟩
    have tl := T25.of hw
    have len : ((ls.map S).map V.str).length = ls.length := by rw [List.length_map, List.length_map]
    generalize (ls.map S).map V.str = xs at el tl len
    have k2 : ∀ (m : Addr) (ys : List V) (H' : Hp), Same H H' → H' m = some (.lst ys) → ys.length ≤ 10 → T25 ys → Q (.ref m) H' := fun m ys H' s e n t => by
      obtain ⟨ms, rfl, en, hm⟩ := t.out
      exact k m ms H' s e (by omega) hm
    have c0 : 0 ≤ cell % (xs.length : Int) := Int.emod_nonneg _ (by omega)
    have c1 : cell % (xs.length : Int) < (xs.length : Int) := Int.emod_lt_of_pos _ (by omega)
    obtain ⟨a, ea⟩ := Int.eq_ofNat_of_zero_le c0
    refine ⟨_, rfl, _, rfl, l, xs, rfl, .inl (SqL.of el), _, _, rfl, rfl, (by omega), ?_⟩
    refine ⟨(by show 15 ≤ sizeLine; decide), fun p1 hp1 => ?_⟩
    have s1 := same_new (u := .lst (odd15.map V.str)) hp1
    have e1 : (upd H p1 (.lst (odd15.map V.str))) p1 = some (.lst (odd15.map V.str)) := upd_same
    have el := s1 _ _ el
    refine ⟨_, rfl, _, _, rfl, rfl, by decide +kernel, by decide, by decide, fun r1 hr1 => ⟨_, _, rfl, rfl, cat_ok (a := 2) (b := 12) (Nat.le_of_eq one_sl) (Nat.le_of_eq hr1) (by decide), ?_⟩⟩
    refine ⟨_, _, rfl, rfl, by decide +kernel, by decide, by decide, fun r2 hr2 => ⟨_, _, rfl, rfl, cat_ok (a := 2) (b := 13) (Nat.le_of_eq one_sl) (Nat.le_of_eq hr2) (by decide), ?_⟩⟩
    refine ⟨(by show 5 ≤ sizeLine; decide), fun p2 hp2 => ?_⟩
    have t5 : T25 (.str (Str.ofString "1/" ++ r1) :: .str (Str.ofString "1/" ++ r2) :: odd3.map V.str) :=
      T25.cons (Nat.le_trans (cat_len (a := 2) (b := 12) (Nat.le_of_eq one_sl) (Nat.le_of_eq hr1)) (by decide)) (T25.cons (Nat.le_trans (cat_len (a := 2) (b := 13) (Nat.le_of_eq one_sl) (Nat.le_of_eq hr2)) (by decide)) odd3_ok)
    have hp2 : upd H p1 (.lst (odd15.map V.str)) p2 = none := hp2
    have s2 := same_new (u := .lst (.str (Str.ofString "1/" ++ r1) :: .str (Str.ofString "1/" ++ r2) :: odd3.map V.str)) hp2
    have e2 : (upd (upd H p1 (.lst (odd15.map V.str))) p2 (.lst (.str (Str.ofString "1/" ++ r1) :: .str (Str.ofString "1/" ++ r2) :: odd3.map V.str))) p2 = some (.lst (.str (Str.ofString "1/" ++ r1) :: .str (Str.ofString "1/" ++ r2) :: odd3.map V.str)) := upd_same
    have e1 := s2 _ _ e1
    have el := s2 _ _ el
    have t20 := odd15_ok.app t5
    have s12 := s1.trans s2
    refine ⟨p1, p2, odd15.map V.str, .str (Str.ofString "1/" ++ r1) :: .str (Str.ofString "1/" ++ r2) :: odd3.map V.str, rfl, rfl, e1, e2, (by show 20 ≤ sizeLine; decide), fun p3 hp3 => ?_⟩
    have hp3 : upd (upd H p1 (.lst (odd15.map V.str))) p2 (.lst (.str (Str.ofString "1/" ++ r1) :: .str (Str.ofString "1/" ++ r2) :: odd3.map V.str)) p3 = none := hp3
    have len20 : (odd15.map V.str ++ (.str (Str.ofString "1/" ++ r1) :: .str (Str.ofString "1/" ++ r2) :: odd3.map V.str)).length = 20 := rfl
    show tSeq _ _ _ _ (upd (upd (upd H p1 (.lst (odd15.map V.str))) p2 (.lst (.str (Str.ofString "1/" ++ r1) :: .str (Str.ofString "1/" ++ r2) :: odd3.map V.str))) p3 (.lst (odd15.map V.str ++ (.str (Str.ofString "1/" ++ r1) :: .str (Str.ofString "1/" ++ r2) :: odd3.map V.str))))
    generalize odd15.map V.str ++ (.str (Str.ofString "1/" ++ r1) :: .str (Str.ofString "1/" ++ r2) :: odd3.map V.str) = os at t20 len20
    generalize upd (upd H p1 (.lst (odd15.map V.str))) p2 (.lst (.str (Str.ofString "1/" ++ r1) :: .str (Str.ofString "1/" ++ r2) :: odd3.map V.str)) = H2 at s12 el hp3
    have s3 := s12.trans (same_new (u := .lst os) hp3)
    have e3 : (upd H2 p3 (.lst os)) p3 = some (.lst os) := upd_same
    have el := same_new (u := .lst os) hp3 _ _ el
    generalize upd H2 p3 (.lst os) = H3 at s3 e3 el
    clear s12 e1 e2 t5 s1 s2 hp1 hp2 hp3 hr1 hr2
    refine ⟨_, rfl, rfl, _, rfl, ifB (fun _ => ?_) (fun _ => ?_)⟩
    · refine ⟨_, rfl, _, rfl, _, rfl, slk el fun p4 H4 s4 e4 => ?_⟩
      rw [cut_to ea] at e4
      refine ⟨_, rfl, _, rfl, _, _, rfl, rfl, ⟨by decide, by decide⟩, _, _, rfl, rfl, (by show (0 : Int) < 20; decide), t20.ix (s4 _ _ e3) (Int.emod_nonneg _ (by decide)) (by rw [len20]; exact Int.emod_lt_of_pos _ (by decide)) fun v tv => ?_⟩
      refine ⟨(by show 1 ≤ sizeLine; decide), fun p5 hp5 => ?_⟩
      have s5 := same_new (u := .lst [v]) hp5
      refine catk (s5 _ _ e4) upd_same (by rw [List.length_take, List.length_singleton]; omega) fun p6 H6 s6 e6 => ?_
      have s36 := (s4.trans s5).trans s6
      refine ⟨_, rfl, _, rfl, _, _, rfl, rfl, _, rfl, noI (slk (s36 _ _ el) fun p7 H7 s7 e7 => ?_)⟩
      have ea1 : cell % (xs.length : Int) + 1 = ((a + 1 : Nat) : Int) := by omega
      rw [cut_from ea1] at e7
      refine catk (s7 _ _ e6) e7 (by rw [List.length_append, List.length_take, List.length_singleton, List.length_drop]; omega) fun p8 H8 s8 e8 => ?_
      exact k2 p8 _ H8 (((s3.trans s36).trans s7).trans s8) e8 (by rw [List.length_append, List.length_append, List.length_take, List.length_singleton, List.length_drop]; omega) (((tl.take a).app tv).app (tl.drop (a + 1)))
    refine ⟨_, rfl, rfl, _, rfl, ifB (fun _ => ?_) (fun _ => ?_)⟩
    · refine ⟨_, rfl, _, rfl, _, rfl, slk el fun p4 H4 s4 e4 => ?_⟩
      rw [cut_to ea] at e4
      refine ⟨_, rfl, _, rfl, tl.ix (s4 _ _ el) c0 c1 fun v tv => ?_⟩
      refine ⟨(by show 1 ≤ sizeLine; decide), fun p5 hp5 => ?_⟩
      have s5 := same_new (u := .lst [v]) hp5
      refine catk (s5 _ _ e4) upd_same (by rw [List.length_take, List.length_singleton]; omega) fun p6 H6 s6 e6 => ?_
      have s36 := (s4.trans s5).trans s6
      refine ⟨_, rfl, _, rfl, _, rfl, noI (slk (s36 _ _ el) fun p7 H7 s7 e7 => ?_)⟩
      rw [cut_from ea] at e7
      refine catk (s7 _ _ e6) e7 (by rw [List.length_append, List.length_take, List.length_singleton, List.length_drop]; omega) fun p8 H8 s8 e8 => ?_
      exact k2 p8 _ H8 (((s3.trans s36).trans s7).trans s8) e8 (by rw [List.length_append, List.length_append, List.length_take, List.length_singleton, List.length_drop]; omega) (((tl.take a).app tv).app (tl.drop a))
    refine ⟨_, rfl, rfl, _, rfl, ifB (fun _ => ?_) (fun _ => ?_)⟩
    · refine ⟨_, rfl, _, rfl, _, rfl, slk el fun p4 H4 s4 e4 => ?_⟩
      rw [cut_to ea] at e4
      refine ⟨_, rfl, _, rfl, _, _, rfl, rfl, _, rfl, noI (slk (s4 _ _ el) fun p7 H7 s7 e7 => ?_)⟩
      have ea1 : cell % (xs.length : Int) + 1 = ((a + 1 : Nat) : Int) := by omega
      rw [cut_from ea1] at e7
      refine catk (s7 _ _ e4) e7 (by rw [List.length_take, List.length_drop]; omega) fun p8 H8 s8 e8 => ?_
      exact k2 p8 _ H8 (((s3.trans s4).trans s7).trans s8) e8 (by rw [List.length_append, List.length_take, List.length_drop]; omega) ((tl.take a).app (tl.drop (a + 1)))
    · exact ⟨_, rfl, k2 l xs H3 s3 el (by omega) tl⟩

theorem sc_law_number : FnScope ["word", "sign"] ["word"] (defScope s_law_number) := ⟨rfl, rfl, rfl, by decide +kernel, rfl, by decide +kernel, by decide +kernel⟩
theorem ok_law_number (D : Df K mg "_law_number" s_law_number) (B : Bt mg) : Gd CX0 P w K mg base 1 "_law_number" ["word"] (spLNum) := by
  refine gd_of D sc_law_number (fun _ _ _ _ _ _ us hl => match us, hl with | [_], _ => rfl) (fun vs H Q E h => ?_) (fun f cdv A outer s H vs Q E hr h => ?_)
  · obtain ⟨w, rfl, _⟩ := h
    rfl
  · obtain ⟨w, rfl, h9, k, k0⟩ := h
    refine ⟨_, PSs.nox (C8.pss_cut (ps_if (PW.pt (pw_or (pt_cmpR op_eq (pv 0) pe_str (nomark _)) (pw_or (pt_cmpR op_gt (pe_callB call_len_str (by rfl) B.len (by decide +kernel) (pa_cons (pv 0) pa_nil)) pe_int (nomark _)) (pw_or1 (PW.pt (pw_and (pt_cmpR op_eq (pe_ix ix_str (pv 0) pe_int (fun _ _ => rfl)) pe_str (nomark _)) (pw_and1 (pt_cmpR op_ne (pv 0) pe_str (nomark _))))))))) (pss_one (ps_ret pe_non)) pss_nil)
      (pss_cons (ps_for PassesOwn.never rfl (pi_str (pv 0)) (pg_name (i := 1) sc_law_number.nd rfl (Or.inl rfl)) (pss_one (ps_if (pt_cmpR op_notIn_sign (pv 1) pe_str (by rfl)) (pss_one (ps_ret pe_non)) pss_nil)))
      (pss_one (ps_ret (pe_callTy call_int_str (by rfl) B.int (by decide +kernel) (pa_cons (pv 0) pa_nil)))))), ?_⟩
    have hl : (S w).length ≤ sizeLine := by
      rw [S_len]
      exact Nat.le_trans h9 (by decide)
    have i1 : ∀ a b : List Nat, a ≠ b → decide (V.str (S a) = V.str (S b)) = false := fun a b hab => decide_eq_false fun z => hab (S_inj (V.str.inj z))
    refine ⟨fun σ' H' => σ' = [some (.str (S w)), none] ∧ H' = H ∧ w ≠ [] ∧ w.length ≤ 12 ∧ (w.head? = some 48 → w = [48]), ?_, ?_⟩
    · by_cases h1 : w = []
      · refine ⟨_, rfl, rfl, _, rfl, ifT ?_ (k0 fun z => z.1 h1)⟩
        rw [sE, h1]
        exact decide_eq_true rfl
      refine ⟨_, rfl, rfl, _, rfl, ifF (by rw [sE]; exact i1 _ _ h1) ?_⟩
      by_cases h2 : w.length ≤ 12
      rotate_left
      · exact ⟨_, rfl, S w, rfl, hl, _, _, rfl, rfl, _, rfl, ifT (decide_eq_true (by rw [S_len]; omega)) (k0 fun z => h2 z.2.1)⟩
      refine ⟨_, rfl, S w, rfl, hl, _, _, rfl, rfl, _, rfl, ifF (decide_eq_false (by rw [S_len]; omega)) ?_⟩
      obtain ⟨c, r, rfl⟩ := List.exists_cons_of_ne_nil h1
      refine ⟨_, rfl, S (c :: r), 0, c, rfl, rfl, hl, atI_nat (j := 0) rfl, rfl, _, rfl, ?_⟩
      refine ifB (fun q => ?_) (fun q => ?_)
      · have e0 : V.str (S [c]) = V.str (S [48]) := by
          have z := of_decide_eq_true q
          rw [s0] at z
          exact z
        have e1 : c = 48 := by
          have z := S_inj (V.str.inj e0)
          simpa using z
        by_cases e2 : c :: r = [48]
        · refine ⟨_, rfl, rfl, _, rfl, ifF ?_ ⟨rfl, rfl, h1, h2, fun _ => e2⟩⟩
          rw [e2, s0]
          simp
        · refine ⟨_, rfl, rfl, _, rfl, ifT ?_ (k0 fun z => e2 (z.2.2.1 (by rw [e1]; rfl)))⟩
          rw [s0, i1 _ _ e2]
          rfl
      · refine ifF rfl ⟨rfl, rfl, h1, h2, fun z => ?_⟩
        exfalso
        have e1 : c = 48 := Option.some.inj z
        rw [s0, e1] at q
        exact absurd q (by simp)
    rintro σ' H' ⟨rfl, rfl, h1, h2, h3⟩
    refine ⟨_, rfl, S w, rfl, for_str (x := S w) (fun i σ H2 => H2 = H' ∧ (∀ c ∈ w.take i, 48 ≤ c ∧ c ≤ 57) ∧ ∃ sv : Option V, σ = [some (.str (S w)), sv]) ⟨rfl, fun c hc => (nomatch hc), none, rfl⟩ ?_ ?_⟩
    · rintro i c σ H2 hc ⟨rfl, hg, sv, rfl⟩
      have z2 : w[i]? = some c := by
        have z : (S w).cps[i]? = some c := hc
        rw [← z]
        simp [S]
      have hm : c ∈ w := List.mem_of_getElem? z2
      by_cases hd : 48 ≤ c ∧ c ≤ 57
      · refine ⟨_, rfl, c, S [48, 49, 50, 51, 52, 53, 54, 55, 56, 57], rfl, congrArg V.str sFig, _, rfl, ifF ?_ ⟨rfl, fun x hx => ?_, _, rfl⟩⟩
        · rw [decide_eq_true ((fig_mem c).mpr hd)]
          rfl
        · rw [List.take_succ, z2] at hx
          rcases List.mem_append.mp hx with hx | hx
          · exact hg x hx
          · have e2 : x = c := by simpa using hx
            rw [e2]
            exact hd
      · refine ⟨_, rfl, c, S [48, 49, 50, 51, 52, 53, 54, 55, 56, 57], rfl, congrArg V.str sFig, _, rfl, ifT ?_ (k0 fun z => hd (z.2.2.2 c hm))⟩
        rw [decide_eq_false fun z => hd ((fig_mem c).mp z)]
        rfl
    · rintro σ H2 ⟨rfl, hg, sv, rfl⟩
      have es : (S w).cps.size = w.length := by simp [S]
      rw [es, List.take_length] at hg
      refine ⟨_, rfl, S w, _, rfl, SX.int_S ?_ h1 (by omega), by rw [S_len]; omega, k ⟨h1, h2, h3, hg⟩⟩
      rw [List.all_eq_true]
      intro c hc
      have z := hg c hc
      rw [decide_eq_true z.1, decide_eq_true z.2]
      rfl

theorem sc_law_due : FnScope ["text", "sides", "word", "pieces", "piece"] ["text"] (defScope s_law_due) := ⟨rfl, rfl, rfl, by decide +kernel, rfl, by decide +kernel, by decide +kernel⟩
theorem ok_law_due (D : Df K mg "_law_due" s_law_due) (B : Bt mg) (g_law_number : Gd CX0 P w K mg base 1 "_law_number" ["word"] (spLNum)) (g_law_low : Gd CX0 P w K mg base 1 "_law_low" ["top", "bottom"] (spLow K)) : Gd CX0 P w K mg base 2 "_law_due" ["text"] (spLDue K) := by
  refine gd_of D sc_law_due (fun _ _ _ _ _ _ us hl => match us, hl with | [_], _ => rfl) (fun vs H Q E h => ?_) (fun f cdv A outer s H vs Q E hr h => ?_)
  · obtain ⟨t, rfl, _⟩ := h
    rfl
  · obtain ⟨t, rfl, h9, k1, k0⟩ := h
    refine ⟨_, PSs.nox (pss_cons (ps_set (i := 1) sc_law_due.nd rfl (Or.inl rfl) (pe_lst pa_nil))
      (pss_cons (ps_for PassesOwn.never rfl (pi_list (pe_split (pv 0) pe_str)) (pg_name (i := 2) sc_law_due.nd rfl (Or.inl rfl)) (pss_cons (ps_setLc (i := 3) (own := [("piece", 4)]) (g := (gName 4)) (tt := tYes) rfl sc_law_due.nd rfl rfl (sw_true rfl rfl rfl (by decide +kernel)) (pi_list (pe_split (pv 2) pe_str)) (blkOk_by (own := [("piece", 4)]) (N := ["text", "sides", "word", "pieces", "piece"]) (sc := defScope s_law_due) (by decide +kernel)) (fun _ _ _ _ _ => (pg_name (i := 4) sc_law_due.nd rfl (Or.inl rfl))) (fun _ _ _ _ _ => pts_nil) (fun _ _ _ _ _ => (pe_gd g_law_number hr (pa_cons (pv 4) pa_nil)))) (pss_cons (ps_if (PW.pt (pw_or (pt_cmpR op_ne (pe_callB call_len_seq (by rfl) B.len (by decide +kernel) (pa_cons (pv 3) pa_nil)) pe_int (nomark _)) (pw_or (pt_cmpR (op_inD (un65 hr)) pe_non (pv 3) (by rfl)) (pw_or (pt_cmpR op_lt (pe_ix ix_list (pv 3) pe_int (fun _ _ => rfl)) pe_int (nomark _)) (pw_or1 (pt_cmpR op_gt (pe_ix ix_list (pv 3) pe_int (fun _ _ => rfl)) (pe_ix ix_list (pv 3) pe_int (fun _ _ => rfl)) (nomark _))))))) (pss_one (ps_ret pe_non)) pss_nil) (pss_cons (ps_if (pt_cmpR (op_neD hr.units) (pe_gd g_law_low hr (pa_cons (pe_ix ix_list (pv 3) pe_int (fun _ _ => rfl)) (pa_cons (pe_ix ix_list (pv 3) pe_int (fun _ _ => rfl)) pa_nil))) (pe_tup (pa_cons (pe_ix ix_list (pv 3) pe_int (fun _ _ => rfl)) (pa_cons (pe_ix ix_list (pv 3) pe_int (fun _ _ => rfl)) pa_nil))) (nomark _)) (pss_one (ps_ret pe_non)) pss_nil) (pss_one (ps_expr (pe_bm PySem.F.plainAttrs_list PySem.F.slot_list_append PySem.F.type_list_append mt_append (pv 1) (pa_cons (pe_tup (pa_cons (pe_ix ix_list (pv 3) pe_int (fun _ _ => rfl)) (pa_cons (pe_ix ix_list (pv 3) pe_int (fun _ _ => rfl)) pa_nil))) pa_nil))))))))
      (pss_cons (ps_if (pt_cmpR op_gt (pe_callB call_len_seq (by rfl) B.len (by decide +kernel) (pa_cons (pv 1) pa_nil)) pe_int (nomark _)) (pss_one (ps_ret pe_non)) pss_nil)
      (pss_one (ps_ret (pv 1)))))), ?_⟩
    refine ⟨Nat.zero_le _, fun lw hlw => ?_⟩
    have sw := same_new (u := .lst []) hlw
    refine ⟨_, rfl, ⟨_, rfl⟩, S t, S [32], rfl, congrArg (fun z => [V.str z]) sSp, rfl, by rw [S_len]; exact Nat.le_trans (show t.length + 2 ≤ 1000 by omega) (by decide), fun p hp => ?_⟩
    have es : Txt.split (S t) (S [32]) = (spl [32] 0 [] t).map S := SX.split_S (by decide) (by decide)
    rw [es]
    obtain ⟨pl, pn⟩ := spl_len [32] t 0 []
    have pne := spl_ne [32] t 0 []
    have bad := @readR_bad t
    have good := @readR_some t
    generalize spl [32] 0 [] t = ls at pl pn pne bad good
    have r0 : RL K (upd H lw (.lst [])) lw [] := RL.new hlw Rats.nil
    have sp := same_new (u := .lst ((ls.map S).map V.str)) hp
    have ep : (upd (upd H lw (.lst [])) p (.lst ((ls.map S).map V.str))) p = some (.lst ((ls.map S).map V.str)) := upd_same
    have r1 := r0.same sp
    have s1 := sw.trans sp
    have hpw : p ≠ lw := by
      obtain ⟨us, eu, _⟩ := r0
      exact (ne_of_none eu hp).symm
    generalize upd (upd H lw (.lst [])) p (.lst ((ls.map S).map V.str)) = H1 at sp ep r1 s1
    have z0 : ([] : List Nat).length = 0 := rfl
    refine ⟨p, rfl, ⟨_, SqL.of ep⟩, for_list (K := K) (a := p) (xs := (ls.map S).map V.str) (fun i σ H' => ∃ (qs : List Rat) (wv pv cv : Option V), σ = [some (.str (S t)), some (.ref lw), wv, pv, cv] ∧ Same H H' ∧ H' p = some (.lst ((ls.map S).map V.str)) ∧ RL K H' lw qs ∧ partsR (ls.take i) = some qs ∧ Unit1 qs)
      ⟨[], none, none, none, rfl, s1, ep, r1, rfl, fun q hq => (nomatch hq)⟩ (fun i σ H' _ ⟨_, _, _, _, _, _, e, _⟩ => SqL.of e) ?_ ?_⟩
    · rintro i v σ H2 hi ⟨qs, wv, pv, cv, rfl, s2, e2, r2, er, hu⟩
      rw [List.getElem?_map, List.getElem?_map] at hi
      have hil : i < ls.length := by
        cases e : ls[i]? with
        | none =>
          rw [e] at hi
          cases hi
        | some q => exact (List.getElem?_eq_some_iff.mp e).1
      have e1 : ls[i]? = some ls[i] := List.getElem?_eq_getElem hil
      rw [e1] at hi
      cases hi
      have wm := List.getElem_mem hil
      have wl := pl ls[i] wm
      have ql := partsR_len er
      rw [List.length_take] at ql
      have et : ls.take (i + 1) = ls.take i ++ [ls[i]] := by rw [List.take_succ, e1]; rfl
      have push := fun q (eq : partR ls[i] = some q) => partsR_push er eq
      rw [← et] at push
      have bad := fun hb => bad wm hb
      generalize ls[i] = w at wl push bad
      -- pieces
      refine ⟨_, rfl, ⟨_, rfl⟩, S w, S [47], rfl, congrArg (fun z => [V.str z]) sSl, rfl, by rw [S_len]; exact Nat.le_trans (show w.length + 2 ≤ 1000 by omega) (by decide), fun p2 hp2 => ?_⟩
      have es2 : Txt.split (S w) (S [47]) = (spl [47] 0 [] w).map S := SX.split_S (by decide) (by decide)
      rw [es2]
      obtain ⟨pl2, pn2⟩ := spl_len [47] w 0 []
      have erw : partR w = match spl [47] 0 [] w with
        | [p, q] => pairR p q
        | _ => none := rfl
      generalize spl [47] 0 [] w = ps at pl2 pn2 erw
      have sp2 := same_new (u := .lst ((ps.map S).map V.str)) hp2
      have ep2 : (upd H2 p2 (.lst ((ps.map S).map V.str))) p2 = some (.lst ((ps.map S).map V.str)) := upd_same
      generalize upd H2 p2 (.lst ((ps.map S).map V.str)) = H3 at sp2 ep2
      refine ⟨p2, rfl, ⟨_, SqL.of ep2⟩, fun D hD => ?_⟩
      refine lc_list (K := K) (a := p2) (xs := (ps.map S).map V.str) (fun j H' => Same H3 H' ∧ H' D = some (.lst ((ps.take j).map pieceV))) ⟨same_new hD, upd_same⟩ (fun j H' _ ⟨s3, _⟩ => SqL.of (s3 _ _ ep2)) ?_ ?_
      · rintro j v H4 hj ⟨s4, e4⟩
        rw [List.getElem?_map, List.getElem?_map] at hj
        have hjl : j < ps.length := by
          cases e : ps[j]? with
          | none =>
            rw [e] at hj
            cases hj
          | some q => exact (List.getElem?_eq_some_iff.mp e).1
        have e5 : ps[j]? = some ps[j] := List.getElem?_eq_getElem hjl
        rw [e5] at hj
        cases hj
        have w2 := pl2 ps[j] (List.getElem_mem hjl)
        have et2 : (ps.take (j + 1)).map pieceV = (ps.take j).map pieceV ++ [pieceV ps[j]] := by
          rw [List.take_succ, e5, List.map_append]
          rfl
        refine ⟨rfl, yesQ (ifT rfl ?_)⟩
        refine ⟨_, rfl, ps[j], rfl, by omega, fun o => ?_, fun o => ?_⟩
        · refine ⟨_, e4, small1000 (by rw [List.length_map, List.length_take]; omega), same_but s4 hD (fun b hb => upd_ne hb), ?_⟩
          rw [upd_same, et2]
          unfold pieceV
          rw [if_pos o]
        · refine ⟨_, e4, small1000 (by rw [List.length_map, List.length_take]; omega), same_but s4 hD (fun b hb => upd_ne hb), ?_⟩
          rw [upd_same, et2]
          unfold pieceV
          rw [if_neg o]
      rintro H4 ⟨s4, e4⟩
      rw [List.length_map, List.length_map, List.take_length] at e4
      have s24 := sp2.trans s4
      have s5 := s2.trans s24
      have e6 := s24 _ _ e2
      have r6 := r2.same s24
      clear s4 sp2 ep2 hp2 hD
      have bno : partR w = none → Q .non H4 := fun e => k0 (bad fun q h => by rw [e] at h; cases h) _ s5
      have many : ∀ n : Nat, ps.length = n → n ≠ 2 → decide (V.int ((ps.map pieceV).length : Int) = V.int 2) = false := fun n h1 h2 => by
        rw [List.length_map, h1, dec_int]
        exact beq_eq_false_iff_ne.mpr (by omega)
      have dp := piece_dp (K := K) (H := H4) ps
      match ps, pl2, erw, e4, many, dp with
      | [], _, erw, e4, many, dp =>
        refine ⟨_, rfl, D, _, rfl, .inl (SqL.of e4), rfl, _, rfl, ifT ?_ (bno erw)⟩
        rw [many 0 rfl (by decide)]
        rfl
      | [x], _, erw, e4, many, dp =>
        refine ⟨_, rfl, D, _, rfl, .inl (SqL.of e4), rfl, _, rfl, ifT ?_ (bno erw)⟩
        rw [many 1 rfl (by decide)]
        rfl
      | x :: y :: z :: r, _, erw, e4, many, dp =>
        refine ⟨_, rfl, D, _, rfl, .inl (SqL.of e4), rfl, _, rfl, ifT ?_ (bno erw)⟩
        rw [many _ rfl (by rw [List.length_cons, List.length_cons, List.length_cons]; omega)]
        rfl
      | [x, y], pl2, erw, e4, many, dp =>
        have erw : partR w = pairR x y := erw
        have lx := pl2 x List.mem_cons_self
        have ly := pl2 y (List.mem_cons_of_mem _ List.mem_cons_self)
        have no : ¬ (numOk x ∧ numOk y ∧ val y ≠ 0 ∧ Nat.gcd (val x) (val y) = 1) → partR w = none := fun hn => by
          rw [erw]
          unfold pairR
          rw [if_neg hn]
        refine ⟨_, rfl, D, _, rfl, .inl (SqL.of e4), rfl, _, rfl, ifF rfl ?_⟩
        have sq := SqL.of (K := K) e4
        have hd : Dp K H4 (.ref D) (.list [pieceD x, pieceD y]) := .lst sq dp
        by_cases o : numOk x ∧ numOk y
        · obtain ⟨ox, oy⟩ := o
          have vx : pieceV x = .int (val x : Nat) := if_pos ox
          have vy : pieceV y = .int (val y : Nat) := if_pos oy
          have dx : pieceD x = .int (val x : Nat) := if_pos ox
          have dy : pieceD y = .int (val y : Nat) := if_pos oy
          rw [dx, dy] at hd
          have e4 : H4 D = some (.lst [.int (val x : Nat), .int (val y : Nat)]) := by
            rw [← vx, ← vy]
            exact e4
          have sq := SqL.of (K := K) e4
          refine ⟨_, rfl, _, _, .non, hd, rfl, rfl, _, rfl, ifF rfl ?_⟩
          refine ⟨_, rfl, D, _, _, _, rfl, rfl, sq, rfl, _, _, rfl, rfl, _, rfl, ?_⟩
          refine if2 (fun hy => ?_) (fun hy => ?_)
          · exact bno (no fun z => z.2.2.1 (by omega))
          have hy : val y ≠ 0 := by omega
          refine ⟨_, rfl, D, _, _, _, rfl, rfl, sq, rfl, _, rfl, D, _, _, _, rfl, rfl, sq, rfl, _, _, rfl, rfl, _, rfl, ?_⟩
          have vq : Nat.gcd (val x) (val y) = 1 → (mkRat ((val x : Nat) : Int) (val y)).num = (val x : Nat) ∧ (mkRat ((val x : Nat) : Int) (val y)).den = val y := fun hg => by
            refine ⟨?_, ?_⟩
            · rw [num_mk hy, Int.natAbs_natCast, hg]
              exact Int.ediv_one _
            · rw [den_mk hy, Int.natAbs_natCast, hg]
              exact Nat.div_one _
          have yes : Nat.gcd (val x) (val y) = 1 → partR w = some (mkRat (val x : Nat) (val y)) := fun hg => by
            rw [erw]
            unfold pairR
            rw [if_pos ⟨ox, oy, hy, hg⟩]
          refine if2 (fun hgt => ?_) (fun hle => ?_)
          · refine k0 (bad fun q eq z => ?_) _ s5
            by_cases hg : Nat.gcd (val x) (val y) = 1
            · obtain ⟨n1, n2⟩ := vq hg
              rw [yes hg] at eq
              cases eq
              rw [n1, n2] at z
              omega
            · rw [no fun z => hg z.2.2.2] at eq
              cases eq
          refine ⟨_, rfl, D, _, _, _, rfl, rfl, sq, rfl, _, rfl, D, _, _, _, rfl, rfl, sq, rfl, (val x : Nat), val y, rfl, hy, Nat.lt_of_lt_of_le (val_lt oy) (Nat.le_trans (m := 2 ^ 40) (by decide) (Nat.pow_le_pow_right (by decide) (by decide))), fun r H5 s6 rr => ?_⟩
          have e4 := s6 _ _ e4
          have sq := SqL.of (K := K) e4
          refine ⟨_, rfl, D, _, _, _, rfl, rfl, sq, rfl, _, rfl, D, _, _, _, rfl, rfl, sq, rfl, (by show 2 ≤ sizeLine; decide), fun t2 ht2 => ?_⟩
          have st := same_new (u := .tup [.int (val x : Nat), .int (val y : Nat)]) ht2
          have ha : Dp K (upd H5 t2 (.tup [.int (val x : Nat), .int (val y : Nat)])) (.ref t2) (dPairI (val x) (val y)) := .tup (SqT.of upd_same) (.cons (.int _) (.cons (.int _) .nil))
          refine ⟨_, _, (rr.same st).dp, ha, sh_rat _, rfl, _, rfl, ?_⟩
          rw [eqv_low hy]
          refine ifB (fun hne => ?_) (fun hne => ?_)
          · have hg : ¬ Nat.gcd (val x) (val y) = 1 := by simpa using hne
            exact k0 (bad fun q eq => by
              rw [no fun z => hg z.2.2.2] at eq
              cases eq) _ ((s5.trans s6).trans st)
          have hg : Nat.gcd (val x) (val y) = 1 := by simpa using hne
          obtain ⟨n1, n2⟩ := vq hg
          have push := push _ (yes hg)
          generalize mkRat ((val x : Nat) : Int) (val y) = q at n1 n2 push
          have s7 := (s5.trans s6).trans st
          have e7 := st _ _ (s6 _ _ e6)
          have r7 := (r6.same s6).same st
          have sq := SqL.of (K := K) (st _ _ e4)
          generalize upd H5 t2 (.tup [.int (val x : Nat), .int (val y : Nat)]) = H7 at s7 e7 r7 sq
          refine ⟨_, rfl, ty_list r7, _, rfl, D, _, _, _, rfl, rfl, sq, rfl, _, rfl, D, _, _, _, rfl, rfl, sq, rfl, (by show 2 ≤ sizeLine; decide), fun t3 ht3 => nI ?_⟩
          have st3 := same_new (u := .tup [.int (val x : Nat), .int (val y : Nat)]) ht3
          have rq : RatAt K (upd H7 t3 (.tup [.int (val x : Nat), .int (val y : Nat)])) (.ref t3) q := rat_of upd_same n1.symm (by rw [n2])
          refine ixa (q := q) (r7.same st3) (by omega) rq fun H8 k8 o8 r8 => ?_
          refine ⟨_, _, _, _, rfl, same_but (s7.trans st3) hlw o8, ?_, r8, push, ?_⟩
          · rw [o8 p hpw]
            exact st3 _ _ e7
          · refine hu.app fun z hz => ?_
            rw [List.mem_singleton.mp hz, n1, n2]
            omega
        · exact ⟨_, rfl, _, _, .non, hd, rfl, pair_shaped x y, _, rfl, ifT (pair_none o) (bno (no fun z => o ⟨z.1, z.2.1⟩))⟩
    · rintro σ H2 ⟨qs, wv, pv, cv, rfl, s2, e2, r2, er, hu⟩
      rw [List.length_map, List.length_map, List.take_length] at er
      have gd := good er
      have ql := partsR_len er
      obtain ⟨xs, ex, rx⟩ := id r2
      refine ⟨_, rfl, lw, xs, rfl, .inl (SqL.of ex), _, _, rfl, rfl, _, rfl, ?_⟩
      rw [rx.1]
      refine ifB (fun hb => ?_) (fun hb => ?_)
      · have hb := of_decide_eq_true hb
        rw [if_neg fun ok => by have := ok.2.1; omega] at gd
        exact k0 gd _ s2
      · have hb := of_decide_eq_false hb
        have pos : 0 < ls.length := List.length_pos_iff.mpr pne
        rw [if_pos ⟨by omega, by omega, hu⟩] at gd
        exact ⟨_, rfl, k1 qs gd lw _ s2 hlw r2⟩

theorem sc_number_of : FnScope ["word", "sign"] ["word"] (defScope s_number_of) := ⟨rfl, rfl, rfl, by decide +kernel, rfl, by decide +kernel, by decide +kernel⟩
theorem ok_number_of_X (D : Df K mg "number_of" s_number_of) (B : Bt mg) (fG : ∃ t, mg "FIGURES" = some (.str (Str.ofString "0123456789") t)) (eB : ErrX K mg "BadText") : Gd (CXL P w) P w K mg base 1 "number_of" ["word"] (spNumX K) := by
  obtain ⟨tFig, eFig⟩ := fG
  refine gd_of D sc_number_of (fun _ _ _ _ _ _ us hl => match us, hl with | [_], _ => rfl) (fun vs H Q E h => ?_) (fun f cdv A outer s H vs Q E hr h => ?_)
  · obtain ⟨w, rfl, _⟩ := h
    rfl
  · obtain ⟨w, rfl, h9, k, kE⟩ := h
    refine ⟨_, (C8.pss_cut (ps_if (PW.pt (pw_or (pt_cmpR op_eq (pv 0) pe_str (nomark _)) (pw_or (pt_cmpR op_gt (pe_callB call_len_str (by rfl) B.len (by decide +kernel) (pa_cons (pv 0) pa_nil)) pe_int (nomark _)) (pw_or1 (PW.pt (pw_and (pt_cmpR op_eq (pe_ix ix_str (pv 0) pe_int (fun _ _ => rfl)) pe_str (nomark _)) (pw_and1 (pt_cmpR op_ne (pv 0) pe_str (nomark _))))))))) (pss_one (L2.ps_raise rfl (L2.takes_of rfl rfl rfl rfl) (L2.pmk_own PySem.F.excBase_ValueError eB.xc eB.g eB.k (raises_own eB.b eB.t) rfl))) pss_nil)
      (pss_cons (ps_for PassesOwn.leaving rfl (pi_str (pv 0)) (pg_name (i := 1) sc_number_of.nd rfl (Or.inl rfl)) (pss_one (ps_if (pt_cmpR op_notIn_sign (pv 1) (pe_glob (v := .str (Str.ofString "0123456789")) rfl eFig ⟨_, rfl⟩) (by rfl)) (pss_one (L2.ps_raise rfl (L2.takes_of rfl rfl rfl rfl) (L2.pmk_own PySem.F.excBase_ValueError eB.xc eB.g eB.k (raises_own eB.b eB.t) rfl))) pss_nil)))
      (pss_one (ps_ret (pe_callTy call_int_str (by rfl) B.int (by decide +kernel) (pa_cons (pv 0) pa_nil)))))), ?_⟩
    have hl : (S w).length ≤ sizeLine := by
      rw [S_len]
      exact Nat.le_trans h9 (by decide)
    have i1 : ∀ a b : List Nat, a ≠ b → decide (V.str (S a) = V.str (S b)) = false := fun a b hab => decide_eq_false fun z => hab (S_inj (V.str.inj z))
    refine ⟨fun σ' H' => σ' = [some (.str (S w)), none] ∧ H' = H ∧ w ≠ [] ∧ w.length ≤ 12 ∧ (w.head? = some 48 → w = [48]), ?_, ?_⟩
    · by_cases h1 : w = []
      · refine ⟨_, rfl, rfl, _, rfl, ifT ?_ (kE fun z => z.1 h1)⟩
        rw [sE, h1]
        exact decide_eq_true rfl
      refine ⟨_, rfl, rfl, _, rfl, ifF (by rw [sE]; exact i1 _ _ h1) ?_⟩
      by_cases h2 : w.length ≤ 12
      rotate_left
      · exact ⟨_, rfl, S w, rfl, hl, _, _, rfl, rfl, _, rfl, ifT (decide_eq_true (by rw [S_len]; omega)) (kE fun z => h2 z.2.1)⟩
      refine ⟨_, rfl, S w, rfl, hl, _, _, rfl, rfl, _, rfl, ifF (decide_eq_false (by rw [S_len]; omega)) ?_⟩
      obtain ⟨c, r, rfl⟩ := List.exists_cons_of_ne_nil h1
      refine ⟨_, rfl, S (c :: r), 0, c, rfl, rfl, hl, atI_nat (j := 0) rfl, rfl, _, rfl, ?_⟩
      refine ifB (fun q => ?_) (fun q => ?_)
      · have e0 : V.str (S [c]) = V.str (S [48]) := by
          have z := of_decide_eq_true q
          rw [s0] at z
          exact z
        have e1 : c = 48 := by
          have z := S_inj (V.str.inj e0)
          simpa using z
        by_cases e2 : c :: r = [48]
        · refine ⟨_, rfl, rfl, _, rfl, ifF ?_ ⟨rfl, rfl, h1, h2, fun _ => e2⟩⟩
          rw [e2, s0]
          simp
        · refine ⟨_, rfl, rfl, _, rfl, ifT ?_ (kE fun z => e2 (z.2.2.1 (by rw [e1]; rfl)))⟩
          rw [s0, i1 _ _ e2]
          rfl
      · refine ifF rfl ⟨rfl, rfl, h1, h2, fun z => ?_⟩
        exfalso
        have e1 : c = 48 := Option.some.inj z
        rw [s0, e1] at q
        exact absurd q (by simp)
    rintro σ' H' ⟨rfl, rfl, h1, h2, h3⟩
    refine ⟨_, rfl, S w, rfl, for_str (x := S w) (fun i σ H2 => H2 = H' ∧ (∀ c ∈ w.take i, 48 ≤ c ∧ c ≤ 57) ∧ ∃ sv : Option V, σ = [some (.str (S w)), sv]) ⟨rfl, fun c hc => (nomatch hc), none, rfl⟩ ?_ ?_⟩
    · rintro i c σ H2 hc ⟨rfl, hg, sv, rfl⟩
      have z2 : w[i]? = some c := by
        have z : (S w).cps[i]? = some c := hc
        rw [← z]
        simp [S]
      have hm : c ∈ w := List.mem_of_getElem? z2
      by_cases hd : 48 ≤ c ∧ c ≤ 57
      · refine ⟨_, rfl, c, S [48, 49, 50, 51, 52, 53, 54, 55, 56, 57], rfl, congrArg V.str sFig, _, rfl, ifF ?_ ⟨rfl, fun x hx => ?_, _, rfl⟩⟩
        · rw [decide_eq_true ((fig_mem c).mpr hd)]
          rfl
        · rw [List.take_succ, z2] at hx
          rcases List.mem_append.mp hx with hx | hx
          · exact hg x hx
          · have e2 : x = c := by simpa using hx
            rw [e2]
            exact hd
      · refine ⟨_, rfl, c, S [48, 49, 50, 51, 52, 53, 54, 55, 56, 57], rfl, congrArg V.str sFig, _, rfl, ifT ?_ (kE fun z => hd (z.2.2.2 c hm))⟩
        rw [decide_eq_false fun z => hd ((fig_mem c).mp z)]
        rfl
    · rintro σ H2 ⟨rfl, hg, sv, rfl⟩
      have es : (S w).cps.size = w.length := by simp [S]
      rw [es, List.take_length] at hg
      refine ⟨_, rfl, S w, _, rfl, SX.int_S ?_ h1 (by omega), by rw [S_len]; omega, k ⟨h1, h2, h3, hg⟩⟩
      rw [List.all_eq_true]
      intro c hc
      have z := hg c hc
      rw [decide_eq_true z.1, decide_eq_true z.2]
      rfl

theorem sc_common : FnScope ["one", "other", "rest"] ["one", "other"] (defScope s_common) := ⟨rfl, rfl, rfl, by decide +kernel, rfl, by decide +kernel, by decide +kernel⟩
theorem ok_common (D : Df K mg "common" s_common) (B : Bt mg) : Gd CX0 P w K mg base 1 "common" ["one", "other"] (spCommon) := by
  refine gd_of D sc_common (fun _ _ _ _ _ _ us hl => match us, hl with | [_, _], _ => rfl) (fun vs H Q E h => ?_) (fun f cdv A outer s H vs Q E hr h => ?_)
  · obtain ⟨a, b, rfl, _⟩ := h
    rfl
  · obtain ⟨a, b, rfl, k⟩ := h
    refine ⟨_, PSs.nox (pss_cons (ps_while PassesOwn.never (pt_cmpR op_gt (pv 1) pe_int (nomark _)) (pss_cons (ps_set (i := 2) sc_common.nd rfl (Or.inl rfl) (pe_op op_modN (pv 0) (pv 1))) (pss_cons (ps_set (i := 0) sc_common.nd rfl (Or.inl rfl) (pv 1)) (pss_one (ps_set (i := 1) sc_common.nd rfl (Or.inl rfl) (pv 2))))))
      (pss_one (ps_ret (pv 0)))), ?_⟩
    refine ⟨fun m σ H1 => H1 = H ∧ ∃ (x y : Nat) (r : Option V), σ = [some (.int x), some (.int y), r] ∧ m = y ∧ Nat.gcd x y = Nat.gcd a b, ⟨b, rfl, a, b, none, rfl, rfl, rfl⟩, ?_⟩
    rintro m σ H1 ⟨rfl, x, y, r, rfl, rfl, eg⟩
    refine ⟨_, rfl, _, _, rfl, rfl, _, rfl, ?_⟩
    refine if2 (fun hy => ?_) (fun hy => ?_)
    · have hy : 0 < m := by omega
      refine ⟨fun σ' H' => H' = H1 ∧ ∃ r : Option V, σ' = [some (.int (m : Nat)), some (.int ((x % m : Nat) : Int)), r], ?_, ?_⟩
      · rintro σ' H' ⟨rfl, r', rfl⟩
        refine ⟨x % m, Nat.mod_lt _ hy, rfl, m, x % m, r', rfl, rfl, ?_⟩
        rw [← eg, Nat.gcd_comm x m, Nat.gcd_rec m x, Nat.gcd_comm m]
      · refine ⟨_, rfl, _, rfl, _, _, rfl, rfl, (by omega), ?_⟩
        refine ⟨_, rfl, _, rfl, rfl, some (.int ((x % m : Nat) : Int)), ?_⟩
        have ef : Int.fmod (x : Int) (m : Int) = ((x % m : Nat) : Int) := by rw [Int.fmod_eq_emod_of_nonneg _ (by omega)]; rfl
        exact congrArg (fun z => [some (V.int (m : Nat)), some (V.int z), some (V.int z)]) ef
    · have e : m = 0 := by omega
      subst e
      refine ⟨_, rfl, ?_⟩
      rw [Nat.gcd_zero_right] at eg
      rw [eg]
      exact k

theorem sc_part_of : FnScope ["word", "pieces", "top", "bottom"] ["word"] (defScope s_part_of) := ⟨rfl, rfl, rfl, by decide +kernel, rfl, by decide +kernel, by decide +kernel⟩
theorem ok_part_of_X (D : Df K mg "part_of" s_part_of) (B : Bt mg) (g_number_of_X : Gd (CXL P w) P w K mg base 1 "number_of" ["word"] (spNumX K)) (g_common : Gd CX0 P w K mg base 1 "common" ["one", "other"] (spCommon)) (eB : ErrX K mg "BadText") : Gd (CXL P w) P w K mg base 2 "part_of" ["word"] (spPartX K) := by
  refine gd_of D sc_part_of (fun _ _ _ _ _ _ us hl => match us, hl with | [_], _ => rfl) (fun vs H Q E h => ?_) (fun f cdv A outer s H vs Q E hr h => ?_)
  · obtain ⟨w, rfl, _⟩ := h
    rfl
  · obtain ⟨w, rfl, h9, k, kE⟩ := h
    refine ⟨_, (pss_cons (ps_set (i := 1) sc_part_of.nd rfl (Or.inl rfl) (pe_split (pv 0) pe_str))
      (pss_cons (ps_if (pt_cmpR op_ne (pe_callB call_len_seq (by rfl) B.len (by decide +kernel) (pa_cons (pv 1) pa_nil)) pe_int (nomark _)) (pss_one (L2.ps_raise rfl (L2.takes_of rfl rfl rfl rfl) (L2.pmk_own PySem.F.excBase_ValueError eB.xc eB.g eB.k (raises_own eB.b eB.t) rfl))) pss_nil)
      (pss_cons (ps_set (i := 2) sc_part_of.nd rfl (Or.inl rfl) (pe_gdXL g_number_of_X hr (L2.takes_of rfl rfl rfl rfl) (fun _ _ _ _ z => z) (pa_cons (pe_ix ix_list (pv 1) pe_int (fun _ _ => rfl)) pa_nil)))
      (pss_cons (ps_set (i := 3) sc_part_of.nd rfl (Or.inl rfl) (pe_gdXL g_number_of_X hr (L2.takes_of rfl rfl rfl rfl) (fun _ _ _ _ z => z) (pa_cons (pe_ix ix_list (pv 1) pe_int (fun _ _ => rfl)) pa_nil)))
      (pss_cons (ps_if (PW.pt (pw_or (pt_cmpR op_eq (pv 3) pe_int (nomark _)) (pw_or1 (pt_cmpR op_ne (pe_gd g_common hr (pa_cons (pv 2) (pa_cons (pv 3) pa_nil))) pe_int (nomark _))))) (pss_one (L2.ps_raise rfl (L2.takes_of rfl rfl rfl rfl) (L2.pmk_own PySem.F.excBase_ValueError eB.xc eB.g eB.k (raises_own eB.b eB.t) rfl))) pss_nil)
      (pss_one (ps_ret (pe_tup (pa_cons (pv 2) (pa_cons (pv 3) pa_nil)))))))))), ?_⟩
    refine ⟨_, rfl, ⟨_, rfl⟩, S w, S [47], rfl, congrArg (fun z => [V.str z]) sSl, rfl, by rw [S_len]; exact Nat.le_trans (show w.length + 2 ≤ 1002 by omega) (by decide), fun p hp => ?_⟩
    have es : Txt.split (S w) (S [47]) = (spl [47] 0 [] w).map S := SX.split_S (by decide) (by decide)
    rw [es]
    obtain ⟨pl, _⟩ := spl_len [47] w 0 []
    have er : partR w = match spl [47] 0 [] w with
      | [p, q] => pairR p q
      | _ => none := rfl
    generalize spl [47] 0 [] w = ps at pl er
    have sp := same_new (u := .lst ((ps.map S).map V.str)) hp
    have ep : (upd H p (.lst ((ps.map S).map V.str))) p = some (.lst ((ps.map S).map V.str)) := upd_same
    generalize upd H p (.lst ((ps.map S).map V.str)) = H1 at sp ep
    have many : ∀ n : Nat, ps.length = n → n ≠ 2 → decide (V.int (((ps.map S).map V.str).length : Int) = V.int 2) = false := fun n h1 h2 => by
      rw [List.length_map, List.length_map, h1, dec_int]
      exact beq_eq_false_iff_ne.mpr (by omega)
    match ps, pl, er, ep, many with
    | [], pl, er, ep, many =>
      refine ⟨_, rfl, p, _, rfl, .inl (SqL.of ep), rfl, _, rfl, ifT ?_ (kE er _ sp)⟩
      rw [many 0 rfl (by decide)]
      rfl
    | [x], pl, er, ep, many =>
      refine ⟨_, rfl, p, _, rfl, .inl (SqL.of ep), rfl, _, rfl, ifT ?_ (kE er _ sp)⟩
      rw [many 1 rfl (by decide)]
      rfl
    | x :: y :: z :: r, pl, er, ep, many =>
      refine ⟨_, rfl, p, _, rfl, .inl (SqL.of ep), rfl, _, rfl, ifT ?_ (kE er _ sp)⟩
      rw [many _ rfl (by rw [List.length_cons, List.length_cons, List.length_cons]; omega)]
      rfl
    | [x, y], pl, er, ep, many =>
      have er : partR w = pairR x y := er
      have z0 : ([] : List Nat).length = 0 := rfl
      have lx := pl x List.mem_cons_self
      have ly := pl y (List.mem_cons_of_mem _ List.mem_cons_self)
      refine ⟨_, rfl, p, _, rfl, .inl (SqL.of ep), rfl, _, rfl, ifF rfl ?_⟩
      have no : ¬ (numOk x ∧ numOk y ∧ val y ≠ 0 ∧ Nat.gcd (val x) (val y) = 1) → partR w = none := fun hn => by
        rw [er]
        unfold pairR
        rw [if_neg hn]
      refine ⟨_, rfl, p, _, _, _, rfl, rfl, SqL.of ep, rfl, x, rfl, by omega, fun ox => ?_, fun ox => kE (no fun z => ox z.1) _ sp⟩
      refine ⟨_, rfl, p, _, _, _, rfl, rfl, SqL.of ep, rfl, y, rfl, by omega, fun oy => ?_, fun oy => kE (no fun z => oy z.2.1) _ sp⟩
      by_cases hy : val y = 0
      · refine ⟨_, rfl, rfl, _, rfl, ifT ?_ (kE (no fun z => z.2.2.1 hy) _ sp)⟩
        rw [hy]
        rfl
      refine ⟨_, rfl, rfl, _, rfl, ifF (by rw [dec_int]; simpa using hy) ?_⟩
      refine ⟨_, rfl, _, rfl, val x, val y, rfl, rfl, _, rfl, ?_⟩
      by_cases hg : Nat.gcd (val x) (val y) = 1
      · rw [hg]
        refine ifF rfl ?_
        have eq : partR w = some (mkRat (val x : Nat) (val y)) := by
          rw [er]
          unfold pairR
          rw [if_pos ⟨ox, oy, hy, hg⟩]
        refine ⟨_, rfl, _, rfl, (by show 2 ≤ sizeLine; decide), fun t ht => ?_⟩
        have e1 : (mkRat ((val x : Nat) : Int) (val y)).num = (val x : Nat) := by
          rw [num_mk hy, Int.natAbs_natCast, hg]
          exact Int.ediv_one _
        have e2 : (mkRat ((val x : Nat) : Int) (val y)).den = val y := by
          rw [den_mk hy, Int.natAbs_natCast, hg]
          exact Nat.div_one _
        exact k _ eq t _ (sp.trans (same_new ht)) (rat_of upd_same e1.symm (by rw [e2]))
      · refine ifT ?_ (kE (no fun z => hg z.2.2.2) _ sp)
        rw [dec_int, beq_eq_false_iff_ne.mpr (by omega)]
        rfl

theorem sc_read : FnScope ["text", "walls", "field", "word"] ["text"] (defScope s_read) := ⟨rfl, rfl, rfl, by decide +kernel, rfl, by decide +kernel, by decide +kernel⟩
theorem ok_read_X (D : Df K mg "read" s_read) (B : Bt mg) (g_part_of_X : Gd (CXL P w) P w K mg base 2 "part_of" ["word"] (spPartX K)) (TF : FTx K mg) (iX : InitOkX P w K mg base) (eF : ErrX K mg "NoField") (eB : ErrX K mg "BadText") (xFF : PySem.W.exmOne K (.ref (He.ga K "NoField")) (.ref (He.ga K "NoField")) = some true) : Gd (CXL P w) P w K mg base 3 "read" ["text"] (spReadX K) := by
  obtain ⟨fX, fdX, FX, MX, bX⟩ := iX
  refine gd_of D sc_read (fun _ _ _ _ _ _ us hl => match us, hl with | [_], _ => rfl) (fun vs H Q E h => ?_) (fun f cdv A outer s H vs Q E hr h => ?_)
  · obtain ⟨t, rfl, _⟩ := h
    rfl
  · obtain ⟨t, rfl, h9, k, kE⟩ := h
    refine ⟨_, (pss_cons (ps_setLcX (i := 1) (own := [("word", 3)]) (g := (gName 3)) (tt := tYes) ⟨rfl, rfl, rfl, rfl⟩ rfl sc_read.nd rfl rfl (sw_true rfl rfl rfl (by decide +kernel)) (pi_list (pe_split (pv 0) pe_str)) (blkOk_by (own := [("word", 3)]) (N := ["text", "walls", "field", "word"]) (sc := defScope s_read) (by decide +kernel)) (fun _ _ _ _ _ _ => (pg_name (i := 3) sc_read.nd rfl (Or.inl rfl))) (fun _ _ _ _ _ _ => pts_nil) (fun _ _ _ _ _ _ hp => (pe_gdP g_part_of_X hr hp (pa_cons (pv 3) pa_nil))))
      (pss_cons (L2H.ps_try_onlyX rfl rfl ⟨rfl, by decide, .inl eF.g⟩ (fun hd => L2H.passesAt_of rfl hd) (L2.takes_of rfl rfl rfl rfl) (fun W pn xe tk _ _ => (pss_one (ps_set (i := 2) sc_read.nd rfl (Or.inl rfl) (pe_makeS MX FX (hr.mono (by decide)) tk rfl TF.gF bX (pa_cons (pv 1) pa_nil))))) (fun a oe cls d pn hz hf tkS hot => (pss_one (L2H.ps_raiseH hot tkS (L2N.pmk_own PySem.F.excBase_ValueError eB.xc eB.g eB.k (raises_own eB.b eB.t) rfl)))))
      (pss_one (ps_ret (pv 2))))), ?_⟩
    refine ⟨_, rfl, ⟨_, rfl⟩, S t, S [32], rfl, congrArg (fun z => [V.str z]) sSp, rfl, by rw [S_len]; exact Nat.le_trans (show t.length + 2 ≤ 1000 by omega) (by decide), fun p hp => ?_⟩
    have es : Txt.split (S t) (S [32]) = (spl [32] 0 [] t).map S := SX.split_S (by decide) (by decide)
    rw [es]
    obtain ⟨pl, pn⟩ := spl_len [32] t 0 []
    have er : readR t = match partsR (spl [32] 0 [] t) with
      | some ws => if FieldOk ws then some ws else none
      | none => none := rfl
    generalize spl [32] 0 [] t = ls at pl pn er
    have sp := same_new (u := .lst ((ls.map S).map V.str)) hp
    have ep : (upd H p (.lst ((ls.map S).map V.str))) p = some (.lst ((ls.map S).map V.str)) := upd_same
    generalize upd H p (.lst ((ls.map S).map V.str)) = H1 at sp ep
    have z0 : ([] : List Nat).length = 0 := rfl
    refine ⟨p, rfl, ⟨_, SqL.of ep⟩, fun D hD => ?_⟩
    refine lc_list (K := K) (a := p) (xs := (ls.map S).map V.str) (fun i H' => Same H1 H' ∧ ∃ qs : List Rat, RL K H' D qs ∧ partsR (ls.take i) = some qs) ⟨same_new hD, [], RL.new hD Rats.nil, rfl⟩ (fun i H' _ ⟨s3, _⟩ => SqL.of (s3 _ _ ep)) ?_ ?_
    · rintro i v H2 hi ⟨s2, qs, r2, e2⟩
      rw [List.getElem?_map, List.getElem?_map] at hi
      have hil : i < ls.length := by
        cases e : ls[i]? with
        | none =>
          rw [e] at hi
          cases hi
        | some q => exact (List.getElem?_eq_some_iff.mp e).1
      have e1 : ls[i]? = some ls[i] := List.getElem?_eq_getElem hil
      rw [e1] at hi
      cases hi
      have wl := pl ls[i] (List.getElem_mem hil)
      have ql := partsR_len e2
      rw [List.length_take] at ql
      refine ⟨rfl, yesQ (ifT rfl ?_)⟩
      refine ⟨_, rfl, ls[i], rfl, by omega, fun q eq t2 H3 s3 r3 => ?_, fun en H3 s3 => kE ?_ _ ((sp.trans s2).trans s3)⟩
      · obtain ⟨acc, ea, ra⟩ := r2.same s3
        refine ⟨acc, ea, small1000 (by rw [ra.1]; omega), same_but (s2.trans s3) hD (fun b hb => upd_ne hb), qs ++ [q], RL.upd ea (ra.push r3), ?_⟩
        rw [List.take_succ, e1]
        exact partsR_push e2 eq
      · rw [er, partsR_none (List.getElem_mem hil) en]
    · rintro H2 ⟨s2, qs, r2, e2⟩
      rw [List.length_map, List.length_map, List.take_length] at e2
      rw [e2] at er
      have er : readR t = if FieldOk qs then some qs else none := er
      have ql := partsR_len e2
      have s0 := sp.trans s2
      refine ⟨_, rfl, nI (make_fieldX r2 (by omega) (fun ok x m H3 nx nm s3 F3 => ?_) (fun no H3 s3 => ?_))⟩
      · rw [if_pos ok] at er
        exact ⟨_, rfl, k qs er x m H3 (s0.free nx) (s0.trans s3) F3⟩
      · rw [if_neg no] at er
        exact ⟨true, xFF, (fun _ a ha => kE er _ (s0.trans s3)), (fun q => nomatch q)⟩

theorem sc_law_kind : FnScope ["e", "kinds"] ["e"] (defScope s_law_kind) := ⟨rfl, rfl, rfl, by decide +kernel, rfl, by decide +kernel, by decide +kernel⟩
theorem ok__law_kind (DF : Df K mg "_law_kind" s_law_kind) (B : Bt mg) (eG : ExG K mg) : GdKindL P w K mg base := by
  obtain ⟨f, fd, F, g⟩ := DF
  refine ⟨f, fd, fun D j kd => ?_, g, F.kp, F.bindsN (fun _ _ _ _ _ _ us hl => match us, hl with | [_], _ => rfl)⟩
  refine fne_ofL F sc_law_kind (fun a vs H Q E h => ?_) (fun cdv A outer s H vs Q E p hot hz hr h => ?_)
  · obtain ⟨rfl, _⟩ := h
    rfl
  · obtain ⟨rfl, k⟩ := h
    have hf : ∃ vs, p.2.data = .fields vs := by
      obtain ⟨_, vs, e⟩ := hot
      exact ⟨vs, e⟩
    obtain ⟨a, oe⟩ := p
    refine ⟨_, PSs.nox (pss_cons (ps_set (i := 1) sc_law_kind.nd rfl (Or.inl rfl) (pe_lst (pa_cons (pe_callB (call_isP List.mem_cons_self kd.ec hz hf) (by rfl) B.isi (by decide +kernel) (pa_cons (pv 0) (pa_cons (pe_glob (v := .ref _) rfl eG.g0 rfl) pa_nil))) (pa_cons (pe_callB (call_isP List.mem_cons_self kd.ec hz hf) (by rfl) B.isi (by decide +kernel) (pa_cons (pv 0) (pa_cons (pe_glob (v := .ref _) rfl eG.g1 rfl) pa_nil))) (pa_cons (pe_callB (call_isP List.mem_cons_self kd.ec hz hf) (by rfl) B.isi (by decide +kernel) (pa_cons (pv 0) (pa_cons (pe_glob (v := .ref _) rfl eG.g2 rfl) pa_nil))) (pa_cons (pe_callB (call_isP List.mem_cons_self kd.ec hz hf) (by rfl) B.isi (by decide +kernel) (pa_cons (pv 0) (pa_cons (pe_glob (v := .ref _) rfl eG.g3 rfl) pa_nil))) pa_nil))))))
      (pss_one (ps_ret (pe_op op_cat (pv 1) (pe_lst (pa_cons (pe_callB (call_isP List.mem_cons_self kd.ec hz hf) (by rfl) B.isi (by decide +kernel) (pa_cons (pv 0) (pa_cons (pe_glob (v := .ref _) rfl eG.g4 rfl) pa_nil))) (pa_cons (pe_callB (call_isP List.mem_cons_self kd.ec hz hf) (by rfl) B.isi (by decide +kernel) (pa_cons (pv 0) (pa_cons (pe_bltn (v := .ty "ValueError") (by rfl) eG.gv (by decide +kernel) rfl) pa_nil))) pa_nil))))))), ?_⟩
    have cr : ∀ (q : Addr) (u : Value), RelV (.ref q) u → u = .ref q := fun _ _ e => e
    have ct : ∀ (u : Value), RelV (.ty "ValueError") u → u = .type "ValueError" := fun _ e => e
    refine ⟨_, rfl, .ref _, _, _, rfl, cr _, kd.k0, ?_⟩
    refine ⟨_, rfl, .ref _, _, _, rfl, cr _, kd.k1, ?_⟩
    refine ⟨_, rfl, .ref _, _, _, rfl, cr _, kd.k2, ?_⟩
    refine ⟨_, rfl, .ref _, _, _, rfl, cr _, kd.k3, ?_⟩
    refine ⟨(by show 4 ≤ sizeLine; decide), fun l1 h1 => ?_⟩
    refine ⟨_, rfl, _, rfl, .ref _, _, _, rfl, cr _, kd.k4, ?_⟩
    refine ⟨_, rfl, .ty "ValueError", _, _, rfl, ct, kd.kv, ?_⟩
    refine ⟨(by show 2 ≤ sizeLine; decide), fun l2 h2 => ?_⟩
    have e1 := (same_new (u := .lst [V.bl (j == 4), .bl true]) h2) _ _ (upd_same (H := H) (a := l1) (o := .lst [V.bl (j == 0), .bl (j == 1), .bl (j == 2), .bl (j == 3)]))
    refine ⟨l1, l2, _, _, rfl, rfl, e1, upd_same, (by show 4 + 2 ≤ sizeLine; decide), fun l3 h3 => ?_⟩
    exact k l3 _ (((same_new h1).trans (same_new h2)).trans (same_new h3)) (((same_new h1).trans (same_new h2)).free h3) upd_same

theorem sc_law_one : FnScope ["k", "j"] ["k"] (defScope s_law_one) := ⟨rfl, rfl, rfl, by decide +kernel, rfl, by decide +kernel, by decide +kernel⟩
theorem ok_law_one (D : Df K mg "_law_one" s_law_one) (B : Bt mg) : Gd CX0 P w K mg base 1 "_law_one" ["k"] (spOneOf) := by
  refine gd_of D sc_law_one (fun _ _ _ _ _ _ us hl => match us, hl with | [_], _ => rfl) (fun vs H Q E h => ?_) (fun f cdv A outer s H vs Q E hr h => ?_)
  · obtain ⟨j, rfl, _⟩ := h
    rfl
  · obtain ⟨j, rfl, k⟩ := h
    refine ⟨_, PSs.nox (pss_one (ps_ret (pe_op op_cat (pe_lc (own := [("j", 1)]) (g := (gName 1)) (tt := tYes) rfl sc_law_one.nd (pi_range1 (by rfl) B.range (pa_cons pe_int pa_nil)) (blkOk_by (own := [("j", 1)]) (N := ["k", "j"]) (sc := defScope s_law_one) (by decide +kernel)) (fun _ _ _ _ _ => (pg_name (i := 1) sc_law_one.nd rfl (Or.inl rfl))) (fun _ _ _ _ _ => pts_nil) (fun _ _ _ _ _ => (pe_cmpR op_eq (pv 0) (pv 1) (nomark _)))) (pe_lst (pa_cons pe_bl pa_nil))))), ?_⟩
    refine ⟨_, rfl, by decide, by decide, fun D hD => ?_⟩
    refine lc_range (lo := 0) (n := 5) (fun i H' => Same H H' ∧ H' D = some (.lst ((List.range i).map fun t => V.bl (j == t)))) ⟨same_new hD, upd_same⟩ ?_ ?_
    · rintro i H1 hi ⟨s1, e1⟩
      refine ⟨rfl, yesQ (ifT rfl ?_)⟩
      refine ⟨_, rfl, _, rfl, rfl, _, e1, small1000 (by rw [List.length_map, List.length_range]; omega), same_but s1 hD (fun b hb => upd_ne hb), ?_⟩
      have ed : decide (V.int (j : Int) = V.int (0 + (i : Int))) = (j == i) := by
        rw [dec_int, Int.zero_add]
        by_cases q : j = i
        · subst q
          rw [beq_self_eq_true, beq_self_eq_true]
        · have q2 : (j : Int) ≠ (i : Int) := fun z => q (Int.ofNat.inj z)
          rw [beq_eq_false_iff_ne.mpr q, beq_eq_false_iff_ne.mpr q2]
      rw [upd_same, ed, List.range_succ, List.map_append]
      rfl
    · rintro H1 ⟨s1, e1⟩
      refine ⟨(by show 1 ≤ sizeLine; decide), fun l2 h2 => ?_⟩
      refine ⟨D, l2, _, _, rfl, rfl, (same_new h2) _ _ e1, upd_same, (by show 5 + 1 ≤ sizeLine; decide), fun l3 h3 => ?_⟩
      exact k l3 _ ((s1.trans (same_new h2)).trans (same_new h3)) ((s1.trans (same_new h2)).free h3) upd_same

theorem sc_law_whole : FnScope ["found"] ["found"] (defScope s_law_whole) := ⟨rfl, rfl, rfl, by decide +kernel, rfl, by decide +kernel, by decide +kernel⟩
theorem ok_law_whole (D : Df K mg "_law_whole" s_law_whole) (B : Bt mg) : Gd CX0 P w K mg base 1 "_law_whole" ["found"] (spWhole) := by
  refine gd_of D sc_law_whole (fun _ _ _ _ _ _ us hl => match us, hl with | [_], _ => rfl) (fun vs H Q E h => ?_) (fun f cdv A outer s H vs Q E hr h => ?_)
  · obtain ⟨i, rfl, _⟩ := h
    rfl
  · obtain ⟨i, rfl, q⟩ := h
    refine ⟨_, PSs.nox (pss_one (ps_ret (pe_and (pe_callB call_isi (by rfl) B.isi (by decide +kernel) (pa_cons (pv 0) (pa_cons (pe_bltn (v := .ty "int") (by rfl) B.int (by decide +kernel) rfl) pa_nil))) (pe_one (pe_not (pe_callB call_isi (by rfl) B.isi (by decide +kernel) (pa_cons (pv 0) (pa_cons (pe_bltn (v := .ty "bool") (by rfl) B.bool (by decide +kernel) rfl) pa_nil)))))))), ?_⟩
    refine ⟨_, rfl, _, _, _, _, true, rfl, .ty _, .base (.int i), kit_ty (by decide +kernel), true, rfl, ifT rfl ?_⟩
    exact ⟨_, rfl, _, _, _, _, false, rfl, .ty _, .base (.int i), kit_ty (by decide +kernel), false, rfl, q⟩

theorem sc_law_parts : FnScope ["found", "due", "k", "part"] ["found", "due"] (defScope s_law_parts) := ⟨rfl, rfl, rfl, by decide +kernel, rfl, by decide +kernel, by decide +kernel⟩
theorem ok_law_parts (D : Df K mg "_law_parts" s_law_parts) (B : Bt mg) (g_law_whole : Gd CX0 P w K mg base 1 "_law_whole" ["found"] (spWhole)) : Gd CX0 P w K mg base 2 "_law_parts" ["found", "due"] (spParts K) := by
  refine gd_of D sc_law_parts (fun _ _ _ _ _ _ us hl => match us, hl with | [_, _], _ => rfl) (fun vs H Q E h => ?_) (fun f cdv A outer s H vs Q E hr h => ?_)
  · obtain ⟨l, m, qs, ps, rfl, _⟩ := h
    rfl
  · obtain ⟨l, m, qs, ps, rfl, hl, hm, hn, k⟩ := h
    refine ⟨_, PSs.nox (pss_cons (ps_if (PW.pt (pw_or (pt_not (pt_val (pe_callB call_isi (by rfl) B.isi (by decide +kernel) (pa_cons (pv 0) (pa_cons (pe_bltn (v := .ty "list") (by rfl) B.list (by decide +kernel) rfl) pa_nil))))) (pw_or1 (pt_cmpR op_ne (pe_callB call_len_seq (by rfl) B.len (by decide +kernel) (pa_cons (pv 0) pa_nil)) (pe_callB call_len_seq (by rfl) B.len (by decide +kernel) (pa_cons (pv 1) pa_nil)) (nomark _))))) (pss_one (ps_ret pe_bl)) pss_nil)
      (pss_cons (ps_for PassesOwn.never rfl (pi_range1 (by rfl) B.range (pa_cons (pe_callB call_len_seq (by rfl) B.len (by decide +kernel) (pa_cons (pv 1) pa_nil)) pa_nil)) (pg_name (i := 2) sc_law_parts.nd rfl (Or.inl rfl)) (pss_cons (ps_set (i := 3) sc_law_parts.nd rfl (Or.inl rfl) (pe_ix ix_list (pv 0) (pv 2) (fun _ _ => rfl))) (pss_cons (ps_if (PW.pt (pw_or (pt_not (pt_val (pe_callB call_isi (by rfl) B.isi (by decide +kernel) (pa_cons (pv 3) (pa_cons (pe_bltn (v := .ty "tuple") (by rfl) B.tuple (by decide +kernel) rfl) pa_nil))))) (pw_or (pt_cmpR op_ne (pe_callB call_len_seq (by rfl) B.len (by decide +kernel) (pa_cons (pv 3) pa_nil)) pe_int (nomark _)) (pw_or (pt_not (pt_val (pe_gd g_law_whole hr (pa_cons (pe_num 3) pa_nil)))) (pw_or1 (pt_not (pt_val (pe_gd g_law_whole hr (pa_cons (pe_den 3) pa_nil))))))))) (pss_one (ps_ret pe_bl)) pss_nil) (pss_one (ps_if (pt_cmpR (op_neD hr.units) (pv 3) (pe_ix ix_list (pv 1) (pv 2) (fun _ _ => rfl)) (nomark _)) (pss_one (ps_ret pe_bl)) pss_nil)))))
      (pss_one (ps_ret pe_bl)))), ?_⟩
    obtain ⟨xs, ex, rx⟩ := id hl
    obtain ⟨ys, ey, ry⟩ := id hm
    refine ⟨_, rfl, _, _, _, _, true, rfl, .ty _, .base (.lst ex), kit_ty (by decide +kernel), true, rfl, ifF rfl ?_⟩
    refine ⟨_, rfl, l, xs, rfl, .inl (SqL.of ex), _, rfl, m, ys, rfl, .inl (SqL.of ey), rfl, _, rfl, ?_⟩
    rw [rx.1, ry.1]
    refine ifB (fun hne => ?_) (fun hne => ?_)
    · have e : ¬ qs = ps := fun z => by
        subst z
        simp at hne
      rw [decide_eq_false e] at k
      exact k
    · have el : qs.length = ps.length := by
        have h1 : decide (V.int (qs.length : Int) = V.int (ps.length : Int)) = true := by simpa using hne
        have h2 := V.int.inj (of_decide_eq_true h1)
        omega
      refine ⟨_, rfl, m, ys, rfl, .inl (SqL.of ey), (ys.length : Int), rfl, by rw [ry.1]; omega, by rw [ry.1]; omega, ?_⟩
      rw [ry.1, Int.toNat_natCast]
      refine for_range (lo := 0) (n := ps.length) (fun i σ H' => H' = H ∧ qs.take i = ps.take i ∧ ∃ kv pv : Option V, σ = [some (.ref l), some (.ref m), kv, pv]) ⟨rfl, by rw [List.take_zero, List.take_zero], none, none, rfl⟩ ?_ ?_
      · rintro i σ H' hi ⟨rfl, et, kv, pv', rfl⟩
        have g1 : qs[i]? = some (qs[i]'(by omega)) := List.getElem?_eq_getElem (by omega)
        have g2 : ps[i]? = some ps[i] := List.getElem?_eq_getElem hi
        refine ⟨_, rfl, _, rfl, ixr hl g1 (by omega) fun v hv => ?_⟩
        obtain ⟨a, rfl, ha⟩ := id hv
        refine ⟨_, rfl, _, _, _, _, true, rfl, .ty _, tyx_tup ha, kit_ty (by decide +kernel), true, rfl, ifF rfl ?_⟩
        refine ⟨_, rfl, a, _, rfl, .inr ha, rfl, _, rfl, ifF rfl ?_⟩
        refine ⟨_, _, rfl, hv, _, rfl, true, rfl, ifF rfl ?_⟩
        refine ⟨_, _, rfl, hv, _, rfl, true, rfl, ifF rfl ?_⟩
        refine ⟨_, rfl, _, rfl, _, rfl, ixr hm g2 (by omega) fun u hu => ?_⟩
        refine ⟨_, _, hv.dp, hu.dp, sh_rat _, sh_rat _, _, rfl, ?_⟩
        rw [eqv_rat]
        refine ifB (fun hne => ?_) (fun hne => ?_)
        · have e : ¬ qs = ps := fun z => by
            subst z
            simp at hne
          rw [decide_eq_false e] at k
          exact k
        · have e : qs[i]'(by omega) = ps[i] := by simpa using hne
          refine ⟨rfl, ?_, _, _, rfl⟩
          rw [List.take_succ, List.take_succ, g1, g2, et, e]
      · rintro σ H' ⟨rfl, et, kv, pv', rfl⟩
        have e : qs = ps := by
          rw [List.take_length] at et
          rw [← et, ← el, List.take_length]
        rw [decide_eq_true e] at k
        exact k

theorem sc_law : FnScope ["script", "parts", "mode", "cell", "text", "at", "sign", "due", "found", "kinds", "e", "k", "part"] ["script"] (defScope s_law) := ⟨rfl, rfl, rfl, by decide +kernel, rfl, by decide +kernel, by decide +kernel⟩
theorem ok_law (B : Bt mg) (g_law_side : Gd CX0 P w K mg base 2 "_law_side" ["cell"] (spSide K)) (g_law_cell_at : Gd CX0 P w K mg base 1 "_law_cell_at" ["script", "k"] (spCellAt K)) (g_law_turned : Gd CX0 P w K mg base 1 "_law_turned" ["words", "mode", "cell"] (spLTurned K)) (g_law_due : Gd CX0 P w K mg base 2 "_law_due" ["text"] (spLDue K)) (g_read_X : Gd (CXL P w) P w K mg base 3 "read" ["text"] (spReadX K)) (g_law_kind : GdKindL P w K mg base) (g_law_one : Gd CX0 P w K mg base 1 "_law_one" ["k"] (spOneOf)) (g_law_parts : Gd CX0 P w K mg base 2 "_law_parts" ["found", "due"] (spParts K)) (TF : FTx K mg) (gW : WallsOk P w K mg base) (gE : mg "EchoError" = some (.ref (He.ga K "EchoError"))) (xB : PySem.W.exmOne K (.ref (He.ga K "BadText")) (.ref (He.ga K "EchoError")) = some true) (kB : KindAt K (He.ga K "BadText") 4) : Gf CX0 P w K mg base 8 "law" s_law ["script"] (spLaw K) := by
  obtain ⟨fW, fdW, FW, MW, bW⟩ := gW
  refine gf_of sc_law (fun vs H Q E h => ?_) (fun f cdv A outer s H vs Q E hr h => ?_)
  · obtain ⟨a, ns, rfl, _⟩ := h
    rfl
  · obtain ⟨a, ns, rfl, hS, hn, k⟩ := h
    refine ⟨_, PSs.nox (pss_cons (ps_setLc (i := 1) (own := [("k", 11)]) (g := (gName 11)) (tt := tYes) rfl sc_law.nd rfl rfl (sw_true rfl rfl rfl (by decide +kernel)) (pi_range1 (by rfl) B.range (pa_cons (pe_op op_add pe_int (pe_op op_mod (pe_gd g_law_cell_at hr (pa_cons (pv 0) (pa_cons pe_int pa_nil))) pe_int)) pa_nil)) (blkOk_by (own := [("k", 11)]) (N := ["script", "parts", "mode", "cell", "text", "at", "sign", "due", "found", "kinds", "e", "k", "part"]) (sc := defScope s_law) (by decide +kernel)) (fun _ _ _ _ _ => (pg_name (i := 11) sc_law.nd rfl (Or.inl rfl))) (fun _ _ _ _ _ => pts_nil) (fun _ _ _ _ _ => (pe_gd g_law_side hr (pa_cons (pe_gd g_law_cell_at hr (pa_cons (pv 0) (pa_cons (pe_op op_add pe_int (pv 11)) pa_nil))) pa_nil))))
      (pss_cons (ps_set (i := 2) sc_law.nd rfl (Or.inl rfl) (pe_op op_mod (pe_gd g_law_cell_at hr (pa_cons (pv 0) (pa_cons pe_int pa_nil))) pe_int))
      (pss_cons (ps_set (i := 3) sc_law.nd rfl (Or.inl rfl) (pe_gd g_law_cell_at hr (pa_cons (pv 0) (pa_cons pe_int pa_nil))))
      (pss_cons (ps_set (i := 4) sc_law.nd rfl (Or.inl rfl) (pe_join pe_str (pe_gd g_law_turned hr (pa_cons (pe_lc (own := [("part", 12)]) (g := (gName 12)) (tt := tYes) rfl sc_law.nd (pi_list (pv 1)) (blkOk_by (own := [("part", 12)]) (N := ["script", "parts", "mode", "cell", "text", "at", "sign", "due", "found", "kinds", "e", "k", "part"]) (sc := defScope s_law) (by decide +kernel)) (fun _ _ _ _ _ => (pg_name (i := 12) sc_law.nd rfl (Or.inl rfl))) (fun _ _ _ _ _ => pts_nil) (fun _ _ _ _ _ => (pe_op op_add_str (pe_op op_add_str (pe_callTy call_str_int (by rfl) B.str (by decide +kernel) (pa_cons (pe_numK (K := K) 12 rfl) pa_nil)) pe_str) (pe_callTy call_str_int (by rfl) B.str (by decide +kernel) (pa_cons (pe_denK (K := K) 12 rfl) pa_nil))))) (pa_cons (pv 2) (pa_cons (pv 3) pa_nil))))))
      (pss_cons (ps_set (i := 5) sc_law.nd rfl (Or.inl rfl) (pe_op op_mod (pv 3) (pe_op op_add (pe_callB call_len_str (by rfl) B.len (by decide +kernel) (pa_cons (pv 4) pa_nil)) pe_int)))
      (pss_cons (ps_set (i := 6) sc_law.nd rfl (Or.inl rfl) (pe_ix ix_str pe_str (pe_op op_mod (pe_op op_fdiv (pv 3) pe_int) pe_int) (fun _ _ => rfl)))
      (C8.pss_cut (ps_if (pt_cmpR op_eq (pv 2) pe_int (nomark _)) (pss_one (ps_set (i := 4) sc_law.nd rfl (Or.inl rfl) (pe_op op_add_str (pe_op op_add_str (pe_slice C8.sl_txt (pv 4) po_none (po_some (pv 5))) (pv 6)) (pe_slice C8.sl_txt (pv 4) (po_some (pv 5)) po_none)))) pss_nil)
      (C8.pss_cut (ps_if (pt_cmpR op_eq (pv 2) pe_int (nomark _)) (pss_one (ps_set (i := 4) sc_law.nd rfl (Or.inl rfl) (pe_op op_add_str (pe_op op_add_str (pe_slice C8.sl_txt (pv 4) po_none (po_some (pv 5))) (pv 6)) (pe_slice C8.sl_txt (pv 4) (po_some (pe_op op_add (pv 5) pe_int)) po_none)))) pss_nil)
      (C8.pss_cut (ps_if (pt_cmpR op_eq (pv 2) pe_int (nomark _)) (pss_one (ps_set (i := 4) sc_law.nd rfl (Or.inl rfl) (pe_op op_add_str (pe_slice C8.sl_txt (pv 4) po_none (po_some (pv 5))) (pe_slice C8.sl_txt (pv 4) (po_some (pe_op op_add (pv 5) pe_int)) po_none)))) pss_nil)
      (pss_cons (ps_set (i := 7) sc_law.nd rfl (Or.inl rfl) (pe_gd g_law_due hr (pa_cons (pv 4) pa_nil)))
      (pss_cons (ps_set (i := 8) sc_law.nd rfl (Or.inl rfl) pe_non)
      (pss_cons (ps_set (i := 9) sc_law.nd rfl (Or.inl rfl) (pe_lst pa_nil))
      (pss_cons (L2.ps_try_as (i := 10) rfl rfl sc_law.nd rfl rfl ⟨rfl, by decide, .inl gE⟩ takes_noneNL (fun W pn xe tk _ => (pss_one (ps_set (i := 8) sc_law.nd rfl (Or.inl rfl) (pe_gdSL g_read_X hr tk (pa_cons (pv 4) pa_nil))))) (fun a oe cls d pn hz hf => (pss_one (ps_set (i := 9) sc_law.nd rfl (Or.inl rfl) (pe_kindL g_law_kind hr hz hf (pa_cons (pv 10) pa_nil))))))
      (pss_cons (ps_if (pt_cmpR op_isN (pv 7) pe_non (nomark _)) (pss_one (ps_ret (pe_and (pe_cmpR op_isN (pv 8) pe_non (nomark _)) (pe_one (pe_cmpR (op_eqD hr.units) (pv 9) (pe_gd g_law_one hr (pa_cons pe_int pa_nil)) (nomark _)))))) pss_nil)
      (pss_one (ps_ret (pe_and (pe_cmpR (op_eqD hr.units) (pv 9) (pe_lst pa_nil) (nomark _)) (pe_one (pe_gd g_law_parts hr (pa_cons (pe_meth0 (pv 8) TF.cl MW FW (hr.mono (by decide)) bW .nil pass0) (pa_cons (pv 7) pa_nil))))))))))))))))))))), ?_⟩
    -- parts
    have c0 : 0 ≤ cellAt ns 0 % 9 := Int.emod_nonneg _ (by decide)
    have c1 : cellAt ns 0 % 9 < 9 := Int.emod_lt_of_pos _ (by decide)
    refine ⟨_, rfl, a, ns, 0, rfl, hS.1, _, _, rfl, rfl, (by show (0 : Int) < 9; decide), _, _, rfl, rfl, _, rfl, by omega, by omega, fun l hl => ?_⟩
    have nl : ∃ n : Nat, (1 + cellAt ns 0 % 9).toNat = n ∧ 1 ≤ n ∧ n ≤ 9 := ⟨_, rfl, by omega, by omega⟩
    obtain ⟨n, en, n1, n9⟩ := nl
    rw [en]
    refine lc_range (lo := 0) (n := n) (fun i H' => Same H H' ∧ RL K H' l ((List.range i).map fun k => sideOf (cellAt ns (4 + k)))) ⟨same_new hl, RL.new hl Rats.nil⟩ ?_ ?_
    · rintro i H1 hi ⟨s1, r1⟩
      refine ⟨rfl, yesQ (ifT rfl ?_)⟩
      refine ⟨_, rfl, _, rfl, _, _, rfl, rfl, a, ns, 4 + i, ?_, s1.seq hS.1, _, rfl, fun r H2 s2 hr => ?_⟩
      · show [V.ref a, V.int (4 + (0 + (i : Int)))] = _
        rw [show (4 : Int) + (0 + (i : Int)) = ((4 + i : Nat) : Int) by omega]
      · obtain ⟨acc, ea, ra⟩ := r1.same s2
        refine ⟨acc, ea, small1000 (by rw [ra.1, List.length_map, List.length_range]; omega), same_but (s1.trans s2) hl (fun b hb => upd_ne hb), ?_⟩
        rw [List.range_succ, List.map_append]
        exact RL.upd ea (ra.push hr)
    rintro H1 ⟨s1, r1⟩
    have hlen : ((List.range n).map fun k => sideOf (cellAt ns (4 + k))).length = n := by
      rw [List.length_map, List.length_range]
    have hw : ∀ q ∈ (List.range n).map fun k => sideOf (cellAt ns (4 + k)), Wr q := fun q hq => by
      obtain ⟨j, _, rfl⟩ := List.mem_map.mp hq
      exact side_wr _
    generalize ((List.range n).map fun k => sideOf (cellAt ns (4 + k))) = ws at r1 hlen hw
    have hS1 := s1.seq hS.1
    refine ⟨_, rfl, a, ns, 1, rfl, hS1, _, _, rfl, rfl, (by show (0 : Int) < 8; decide), ?_⟩
    refine ⟨_, rfl, a, ns, 2, rfl, hS1, ?_⟩
    -- text
    obtain ⟨xs, ex, rx⟩ := id r1
    refine ⟨⟨_, rfl⟩, _, rfl, l, rfl, ⟨xs, SqL.of ex⟩, fun D hD => ?_⟩
    refine lc_list (K := K) (a := l) (xs := xs) (fun i H' => Same H1 H' ∧ H' D = some (.lst (((ws.take i).map fun q => S (wordOf q)).map V.str))) ⟨same_new hD, upd_same⟩ (fun i H' _ ⟨s3, _⟩ => SqL.of (s3 _ _ ex)) ?_ ?_
    · rintro i v H2 hi ⟨s2, e2⟩
      have hil : i < ws.length := by rw [← rx.1]; exact (List.getElem?_eq_some_iff.mp hi).1
      have e1 : ws[i]? = some ws[i] := List.getElem?_eq_getElem hil
      have rv : RatAt K H2 v ws[i] := (rx.2 i v _ hi e1).same s2
      have wq := hw ws[i] (List.getElem_mem hil)
      have la := numL_len (k := 12) (by decide) wq.2.1
      have lb := numL_len (k := 12) (by decide) wq.2.2
      refine ⟨rfl, yesQ (ifT rfl ?_)⟩
      refine ⟨_, _, rfl, rv, _, rfl, log_small wq.1 wq.2.1, _, _, rfl, rfl, ?_, ?_⟩
      · rw [show_num wq.1, sSl, S_len, S_len]
        exact Nat.le_trans (show (numL ws[i].num.toNat).length + 1 ≤ 13 by omega) (by decide)
      refine ⟨_, _, rfl, rv, _, rfl, log_small (by omega) (by rw [Int.toNat_natCast]; exact wq.2.2), _, _, rfl, rfl, ?_, ?_⟩
      · rw [show_num wq.1, sSl, num_S, S_cat, S_len, S_len, List.length_append, List.length_singleton]
        exact Nat.le_trans (show (numL ws[i].num.toNat).length + 1 + (numL ws[i].den).length ≤ 25 by omega) (by decide)
      refine ⟨_, e2, ?_, same_but s2 hD (fun b hb => upd_ne hb), ?_⟩
      · rw [List.length_map, List.length_map, List.length_take]
        exact small1000 (by omega)
      · rw [upd_same, show_num wq.1, sSl, num_S, S_cat, S_cat, List.append_assoc, List.take_succ, e1, List.map_append, List.map_append]
        rfl
    rintro H2 ⟨s2, e2⟩
    rw [rx.1, List.take_length] at e2
    have s02 := s1.trans s2
    have e2 : H2 D = some (.lst (((ws.map wordOf).map S).map V.str)) := by
      rw [List.map_map (g := S)]
      exact e2
    refine ⟨_, rfl, _, rfl, D, ws.map wordOf, _, _, rfl, e2, by rw [List.length_map]; omega, by rw [List.length_map]; omega, fun w hw2 => ?_, fun m ms H3 s3 em m10 m25 => ?_⟩
    · obtain ⟨q, hq, rfl⟩ := List.mem_map.mp hw2
      exact word_len (hw q hq)
    have s03 := s02.trans s3
    refine ⟨S [32], m, ms.map S, congrArg V.str sSp, rfl, .inl (SqL.of em), ?_, ?_⟩
    · have z := sum_len m25
      have z2 : (S [32]).length = 1 := rfl
      rw [List.length_map, z2]
      exact Nat.le_trans (show _ ≤ 1000 by omega) (by decide)
    have tl := joinL_len [32] m25
    rw [SX.join_S [32] ms]
    generalize joinL [32] ms = t at tl
    have t0 : t.length ≤ 260 := by
      have z2 : ([32] : List Nat).length = 1 := rfl
      rw [z2] at tl
      omega
    clear tl em m10 m25 e2 ex rx
    have d0 : 0 ≤ cellAt ns 2 % (((S t).length : Int) + 1) := Int.emod_nonneg _ (by omega)
    obtain ⟨j, ej⟩ := Int.eq_ofNat_of_zero_le d0
    refine ⟨_, rfl, _, rfl, S t, rfl, by rw [S_len]; exact Nat.le_trans t0 (by decide), _, _, rfl, rfl, _, _, rfl, rfl, (by omega), ?_⟩
    refine ⟨_, rfl, _, _, rfl, rfl, ⟨by decide, by decide⟩, _, _, rfl, rfl, (by show (0 : Int) < 16; decide), ix_sign signs16 (Int.emod_nonneg _ (by decide)) (Int.emod_lt_of_pos _ (by decide)) fun c => ?_⟩
    have lc : (S [c]).length ≤ 1 := Nat.le_refl _
    have lS : ∀ {w : List Nat} {n : Nat}, w.length ≤ n → (S w).length ≤ n := fun h => by rw [S_len]; exact h
    refine ⟨fun σ' H' => H' = H3 ∧ ∃ t2 : List Nat, σ' = [some (.ref a), some (.ref l), some (.int (cellAt ns 1 % 8)), some (.int (cellAt ns 2)), some (.str (S t2)), some (.int (j : Nat)), some (.str (S [c])), none, none, none, none, none, none] ∧ t2.length ≤ 261, ?_, ?_⟩
    · refine ⟨_, rfl, rfl, _, rfl, ifB (fun _ => ?_) (fun _ => ?_)⟩
      · refine ⟨_, rfl, _, rfl, _, rfl, txt_to (by omega) ej ⟨_, rfl, _, _, rfl, rfl, cat_ok (a := 260) (b := 1) (lS (by rw [List.length_take]; omega)) lc (by decide), ?_⟩⟩
        refine ⟨_, rfl, _, rfl, _, rfl, noI (txt_from (by omega) ej ⟨_, _, rfl, rfl, cat_ok (a := 261) (b := 260) (by rw [S_cat]; exact lS (by rw [List.length_append, List.length_take, List.length_singleton]; omega)) (lS (by rw [List.length_drop]; omega)) (by decide), ?_⟩)⟩
        refine ⟨rfl, t.take j ++ [c] ++ t.drop j, ?_, by rw [List.length_append, List.length_append, List.length_take, List.length_singleton, List.length_drop]; omega⟩
        rw [← S_cat, ← S_cat]
        exact congrArg (fun z => [some (V.ref a), some (.ref l), some (.int (cellAt ns 1 % 8)), some (.int (cellAt ns 2)), some (.str (S (t.take j) ++ S [c] ++ S (t.drop j))), some (.int z), some (.str (S [c])), none, none, none, none, none, none]) ej
      · exact ⟨rfl, t, congrArg (fun z => [some (V.ref a), some (.ref l), some (.int (cellAt ns 1 % 8)), some (.int (cellAt ns 2)), some (.str (S t)), some (.int z), some (.str (S [c])), none, none, none, none, none, none]) ej, by omega⟩
    clear t0 d0 ej
    rintro σ' H3' ⟨rfl, t2, rfl, t0⟩
    refine ⟨fun σ' H' => H' = H3' ∧ ∃ t3 : List Nat, σ' = [some (.ref a), some (.ref l), some (.int (cellAt ns 1 % 8)), some (.int (cellAt ns 2)), some (.str (S t3)), some (.int (j : Nat)), some (.str (S [c])), none, none, none, none, none, none] ∧ t3.length ≤ 262, ?_, ?_⟩
    · refine ⟨_, rfl, rfl, _, rfl, ifB (fun _ => ?_) (fun _ => ?_)⟩
      · refine ⟨_, rfl, _, rfl, _, rfl, txt_to (by omega) rfl ⟨_, rfl, _, _, rfl, rfl, cat_ok (a := 261) (b := 1) (lS (by rw [List.length_take]; omega)) lc (by decide), ?_⟩⟩
        refine ⟨_, rfl, _, rfl, _, _, rfl, rfl, _, rfl, noI (txt_from (a := j + 1) (by omega) (by omega) ⟨_, _, rfl, rfl, cat_ok (a := 262) (b := 261) (by rw [S_cat]; exact lS (by rw [List.length_append, List.length_take, List.length_singleton]; omega)) (lS (by rw [List.length_drop]; omega)) (by decide), ?_⟩)⟩
        refine ⟨rfl, t2.take j ++ [c] ++ t2.drop (j + 1), ?_, by rw [List.length_append, List.length_append, List.length_take, List.length_singleton, List.length_drop]; omega⟩
        rw [← S_cat, ← S_cat]
        rfl
      · exact ⟨rfl, t2, rfl, by omega⟩
    clear t0
    rintro σ' H3' ⟨rfl, t3, rfl, t0⟩
    refine ⟨fun σ' H' => H' = H3' ∧ ∃ t4 : List Nat, σ' = [some (.ref a), some (.ref l), some (.int (cellAt ns 1 % 8)), some (.int (cellAt ns 2)), some (.str (S t4)), some (.int (j : Nat)), some (.str (S [c])), none, none, none, none, none, none] ∧ t4.length ≤ 262, ?_, ?_⟩
    · refine ⟨_, rfl, rfl, _, rfl, ifB (fun _ => ?_) (fun _ => ?_)⟩
      · refine ⟨_, rfl, _, rfl, _, rfl, txt_to (by omega) rfl ⟨_, rfl, _, rfl, _, _, rfl, rfl, _, rfl, noI (txt_from (a := j + 1) (by omega) (by omega) ⟨_, _, rfl, rfl, cat_ok (a := 262) (b := 262) (lS (by rw [List.length_take]; omega)) (lS (by rw [List.length_drop]; omega)) (by decide), ?_⟩)⟩⟩
        refine ⟨rfl, t3.take j ++ t3.drop (j + 1), ?_, by rw [List.length_append, List.length_take, List.length_drop]; omega⟩
        rw [← S_cat]
        rfl
      · exact ⟨rfl, t3, rfl, by omega⟩
    clear t0
    rintro σ' H3' ⟨rfl, t4, rfl, t0⟩
    -- due
    refine ⟨_, rfl, t4, rfl, by omega, fun ws2 er d H4 s4 nd rd => ?_, fun er H4 s4 => ?_⟩
    · have ok := readR_ok er
      have h8 := ok.2.1
      refine ⟨Nat.zero_le _, fun l0 h0 => ?_⟩
      have s0 := same_new (u := .lst []) h0
      have r0 : RL K (upd H4 l0 (.lst [])) l0 [] := RL.new h0 Rats.nil
      have rd := rd.same s0
      refine ⟨_, rfl, t4, rfl, by omega, fun ws3 er3 p pm H6 np s6 F => ?_, fun er3 H6 s6 => ?_⟩
      · rw [er] at er3
        cases er3
        refine ⟨_, rfl, rfl, false, congrArg V.bl (decide_eq_false (fun z => nomatch z)), ifF rfl ?_⟩
        refine ⟨_, rfl, Nat.zero_le _, fun te hte => ?_⟩
        have se := same_new (u := .lst []) hte
        have ree : RL K (upd H6 te (.lst [])) te [] := RL.new hte Rats.nil
        refine ⟨_, _, ((r0.same s6).same se).dp, ree.dp, sh_rats _, sh_rats _, true, congrArg V.bl (by rw [eqv_rats]; exact decide_eq_true rfl), ifT rfl ?_⟩
        refine ⟨_, rfl, ask_walls (F.same se) (by omega) fun w5 H7 nw5 s7 rw5 => ?_⟩
        refine ⟨_, rfl, w5, d, ws2, ws2, rfl, rw5, ((rd.same s6).same se).same s7, by omega, ?_⟩
        rw [decide_eq_true rfl]
        exact k _
      · rw [er] at er3
        cases er3
    · refine ⟨Nat.zero_le _, fun l0 h0 => ?_⟩
      refine ⟨_, rfl, t4, rfl, by omega, fun ws3 er3 p pm H6 np s6 F => ?_, fun er3 H6 s6 => ?_⟩
      · rw [er] at er3
        cases er3
      · refine ⟨true, xB, (fun _ a ha => ?_), (fun q => nomatch q)⟩
        refine ⟨He.ga K "BadText", 4, rfl, rfl, kB, _, rfl, rfl, fun l2 H7 s7 n7 e7 => ?_⟩
        refine ⟨_, rfl, rfl, true, congrArg V.bl (decide_eq_true rfl), ifT rfl ?_⟩
        refine ⟨_, rfl, rfl, true, congrArg V.bl (decide_eq_true rfl), ifT rfl ?_⟩
        refine ⟨_, rfl, 4, rfl, fun l3 H8 s8 n8 e8 => ?_⟩
        refine ⟨_, _, bools_at (s8 _ _ e7), bools_at e8, rfl, rfl, ?_⟩
        exact k _

end
def fnL : List He.DefD := [dfD "_law_low" s_law_low, dfD "_law_side" s_law_side, dfD "_law_cell_at" s_law_cell_at, dfD "_law_turned" s_law_turned, dfD "_law_number" s_law_number, dfD "_law_due" s_law_due, dfD "number_of" s_number_of, dfD "common" s_common, dfD "part_of" s_part_of, dfD "read" s_read, dfD "_law_kind" s_law_kind, dfD "_law_one" s_law_one, dfD "_law_whole" s_law_whole, dfD "_law_parts" s_law_parts, dfD "law" s_law, mtD "Field" "__init__" "Field.__init__" s_Field_init, mtD "Field" "walls" "Field.walls" s_Field_walls]
def faL : List He.Fa := btFa ++ [.glo "_law_low", .glo "_law_side", .glo "_law_cell_at", .glo "_law_turned", .glo "_law_number", .glo "_law_due", .glo "number_of", .glo "common", .glo "part_of", .glo "read", .glo "_law_kind", .glo "_law_one", .glo "_law_whole", .glo "_law_parts", .glo "law", .glo "Field", .cls "Field", .noat "Field" "parts", .meth "Field" "walls", .mkr "Field", .glo "NoField", .exc "NoField", .glo "BadText", .exc "BadText", .exm "BadText" "EchoError" true, .exm "NoField" "NoField" true, .glo "EchoError", .glo "NoMoment", .glo "NoRecord", .glo "TooMany", .free "ValueError", .str "FIGURES" "0123456789"]
def xbL (K : PySem.W.Frag) : Bool := kindB K (He.ga K "BadText") 4
abbrev rowL : PySem.W.OpenRow := PySem.W.OpenLaw.row PySem.Challenge.rw_echofield_k12_read
abbrev hkL : PySem.W.Hook := hookX 5 faL fnL xbL
def obL (s : PySem.W.SharedT) : AlX := obsXG 5 faL fnL xbL (HandSHeadRun.getT s)
theorem obL_eq (s : PySem.W.SharedT) : obL s = hkL.obs s.abs := obsXG_eq (HandSHeadRun.getT_eq s)
def looseL : List Str := (["EchoError", "NoField", "NoMoment", "NoRecord", "TooMany", "BadText", "Field", "common", "number_of", "part_of", "read", "_law_cell_at", "_law_whole", "_law_kind", "_law_one", "_law_low", "_law_plus", "_law_times", "_law_less", "_law_parts"] : List Str) ++ (["_law_side", "_law_sides", "_law_number", "_law_due", "_law_turned", "FIGURES"] : List Str)
theorem runL (w : World) : HandSHeadRun.RunEq rowL (PySem.W.view rowL.prog [31]) hkL obL 3000 looseL w := by
  intro os
  kernel_rfl
theorem lawL {P : Program} {w : World} {K : PySem.W.Frag} {h : Heap} {mg : Str → Option Value} (X : K.In h) (G : h.Ns mainGlobals mg) (c : SaysX faL fnL xbL K) (base : Heap) : Gf CX0 P w K mg base 8 "law" s_law ["script"] (spLaw K) := by
  have B : Bt mg := bt_of c X G
  have xb : (kindB K (He.ga K "BadText") 4) = true := c.x
  have q0 := xb
  have eF : ErrX K mg "NoField" := ⟨He.glo_ok X G (c.d.fact 30 (f := .glo "NoField") rfl), (He.exc_ok (c.d.fact 31 (f := .exc "NoField") rfl)).1, (He.exc_ok (c.d.fact 31 (f := .exc "NoField") rfl)).2.1, (He.exc_ok (c.d.fact 31 (f := .exc "NoField") rfl)).2.2.1, (He.exc_ok (c.d.fact 31 (f := .exc "NoField") rfl)).2.2.2⟩
  have eB : ErrX K mg "BadText" := ⟨He.glo_ok X G (c.d.fact 32 (f := .glo "BadText") rfl), (He.exc_ok (c.d.fact 33 (f := .exc "BadText") rfl)).1, (He.exc_ok (c.d.fact 33 (f := .exc "BadText") rfl)).2.1, (He.exc_ok (c.d.fact 33 (f := .exc "BadText") rfl)).2.2.1, (He.exc_ok (c.d.fact 33 (f := .exc "BadText") rfl)).2.2.2⟩
  have xB := He.exm_ok (c.d.fact 34 (f := .exm "BadText" "EchoError" true) rfl)
  have kB : KindAt K (He.ga K "BadText") 4 := kind_ok q0
  have xFF := He.exm_ok (c.d.fact 35 (f := .exm "NoField" "NoField" true) rfl)
  have gE := He.glo_ok X G (c.d.fact 36 (f := .glo "EchoError") rfl)
  have eG : ExG K mg := ⟨He.glo_ok X G (c.d.fact 30 (f := .glo "NoField") rfl), He.glo_ok X G (c.d.fact 37 (f := .glo "NoMoment") rfl), He.glo_ok X G (c.d.fact 38 (f := .glo "NoRecord") rfl), He.glo_ok X G (c.d.fact 39 (f := .glo "TooMany") rfl), He.glo_ok X G (c.d.fact 32 (f := .glo "BadText") rfl), He.free_ok X G (c.d.fact 40 (f := .free "ValueError") rfl)⟩
  have fG := He.str_ok X G (c.d.fact 41 (f := .str "FIGURES" "0123456789") rfl)
  have TF : FTx K mg := ftx_of c X G 25
  have gI : InitOk P w K mg base := by
    obtain ⟨fd, F⟩ := c.d.def_ 15 (d := mtD "Field" "__init__" "Field.__init__" s_Field_init) rfl
    exact ⟨_, fd, ok_Field_init F B TF, He.mkr_ok (c.d.fact 29 (f := .mkr "Field") rfl), F.bindsN fun _ _ _ _ _ _ us hl => match us, hl with | [_, _], _ => rfl⟩
  have iX : InitOkX P w K mg base := by
    obtain ⟨fd, F⟩ := c.d.def_ 15 (d := mtD "Field" "__init__" "Field.__init__" s_Field_init) rfl
    exact ⟨_, fd, ok_Field_init_X F B TF eF, He.mkr_ok (c.d.fact 29 (f := .mkr "Field") rfl), F.bindsN fun _ _ _ _ _ _ us hl => match us, hl with | [_, _], _ => rfl⟩
  have gW : WallsOk P w K mg base := by
    obtain ⟨fd, F⟩ := c.d.def_ 16 (d := mtD "Field" "walls" "Field.walls" s_Field_walls) rfl
    exact ⟨_, fd, ok_Field_walls F B TF, He.meth_ok (c.d.fact 28 (f := .meth "Field" "walls") rfl), F.bindsN fun _ _ _ _ _ _ us hl => match us, hl with | [_], _ => rfl⟩
  have g_law_low := ok_law_low (P := P) (w := w) (base := base) (df_of c X G 0 10 (x := "_law_low") (st := s_law_low)) B
  have g_law_side := ok_law_side (P := P) (w := w) (base := base) (df_of c X G 1 11 (x := "_law_side") (st := s_law_side)) B g_law_low
  have g_law_cell_at := ok_law_cell_at (P := P) (w := w) (base := base) (df_of c X G 2 12 (x := "_law_cell_at") (st := s_law_cell_at)) B
  have g_law_turned := ok_law_turned (P := P) (w := w) (base := base) (df_of c X G 3 13 (x := "_law_turned") (st := s_law_turned)) B
  have g_law_number := ok_law_number (P := P) (w := w) (base := base) (df_of c X G 4 14 (x := "_law_number") (st := s_law_number)) B
  have g_law_due := ok_law_due (P := P) (w := w) (base := base) (df_of c X G 5 15 (x := "_law_due") (st := s_law_due)) B g_law_number g_law_low
  have g_number_of_X := ok_number_of_X (P := P) (w := w) (base := base) (df_of c X G 6 16 (x := "number_of") (st := s_number_of)) B fG eB
  have g_common := ok_common (P := P) (w := w) (base := base) (df_of c X G 7 17 (x := "common") (st := s_common)) B
  have g_part_of_X := ok_part_of_X (P := P) (w := w) (base := base) (df_of c X G 8 18 (x := "part_of") (st := s_part_of)) B g_number_of_X g_common eB
  have g_read_X := ok_read_X (P := P) (w := w) (base := base) (df_of c X G 9 19 (x := "read") (st := s_read)) B g_part_of_X TF iX eF eB xFF
  have g_law_kind := ok__law_kind (P := P) (w := w) (base := base) (df_of c X G 10 20 (x := "_law_kind") (st := s_law_kind)) B eG
  have g_law_one := ok_law_one (P := P) (w := w) (base := base) (df_of c X G 11 21 (x := "_law_one") (st := s_law_one)) B
  have g_law_whole := ok_law_whole (P := P) (w := w) (base := base) (df_of c X G 12 22 (x := "_law_whole") (st := s_law_whole)) B
  have g_law_parts := ok_law_parts (P := P) (w := w) (base := base) (df_of c X G 13 23 (x := "_law_parts") (st := s_law_parts)) B g_law_whole
  exact ok_law B g_law_side g_law_cell_at g_law_turned g_law_due g_read_X g_law_kind g_law_one g_law_parts TF gW gE xB kB
theorem factsL {P : Program} {w : World} {K : PySem.W.Frag} {h : Heap} {mg : Str → Option Value} {f : Addr} (X : K.In h) (G : h.Ns mainGlobals mg) (hfa : mg ("law" : Str) = some (.ref f)) (c : SaysX faL fnL xbL K) :
    ∃ fd : FuncData, (∀ (s : Shared) (v : Value), BindsTo s fd ⟨[v], []⟩ [("script", v)]) ∧ ∀ base : Heap, K.In base → base.Ns mainGlobals mg → FnOk P w K mg base CX0 8 f fd ["script"] (spLaw K) := by
  obtain ⟨fd, F⟩ := c.d.def_ 14 (d := dfD "law" s_law) rfl
  have b := FunD.bindsA (ps := ["script"]) F fun _ _ _ _ _ _ us hl => match us, hl with | [_], _ => rfl
  have e := hfa.symm.trans (He.glo_ok X G (c.d.fact 24 (f := .glo "law") rfl))
  cases e
  exact ⟨fd, fun s v => b s [v] rfl, fun base _ _ => lawL X G c base _ fd F⟩
end Ef
open PySem PySem.W PySem.Calls PyProof.Rows
set_option maxHeartbeats 0
theorem PySem.Challenge.cw_echofield_k12_read_holds : PySem.Challenge.rw_echofield_k12_read.Holds := by
  w_on; o_law
  refine HandSHeadRun.head_any (r := OpenLaw.row PySem.Challenge.rw_echofield_k12_read) (q := view (OpenLaw.row PySem.Challenge.rw_echofield_k12_read).prog [31]) (H := Ef.hkL) (ob := Ef.obL) (M := 3000) (loose := Ef.looseL) (d := HandSHeadRun.topDef (OpenLaw.row PySem.Challenge.rw_echofield_k12_read).prog 31) (kwd := []) Ef.obL_eq
    (by kernel_rfl) (fun s => by kernel_rfl) Ef.runL (by kernel_rfl) (by kernel_rfl) (by kernel_rfl) (by rfl) (by first | assumption | decide +kernel) (by decide +kernel) ⟨rfl, rfl, rfl, rfl, rfl, by decide +kernel⟩ ?hw ?hc
  case hw => w_witness2
  case hc =>
    refine L2.walk_ofE (l := PySem.Challenge.rw_echofield_k12_read) (n := 63) (k := 8) (x := "script") (CX := L2.CX0) rfl (by decide) (by kernel_rfl) ⟨rfl, by decide, by decide⟩ ?F (fun _ _ _ _ z => z)
    intro w mg fa h Y G hmg0
    obtain ⟨K, KX, c⟩ := Y
    have hmg : mg ("law" : PySem.Str) = some (.ref fa) := by
      have e : (HandSHeadRun.topDef (OpenLaw.row PySem.Challenge.rw_echofield_k12_read).prog 31).name = ("law" : PySem.Str) := by kernel_rfl
      rw [← e]
      exact hmg0
    obtain ⟨fd, hb, hF⟩ := Ef.factsL (P := (PySem.Challenge.rw_echofield_k12_read).prog) (w := w) KX G hmg c
    exact ⟨K, fd, Ef.spLaw K, KX, hb, fun H a ns hl hO hS => ⟨a, ns, rfl, Ef.scr_of hO hS, hl, fun _ => rfl⟩, hF⟩
#print axioms PySem.Challenge.cw_echofield_k12_read_holds
