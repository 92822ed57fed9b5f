import PyProof.Rows.All
import Wide.All
import OpenK.AllK
import Wide.FinOn
import HandS.Base
import HandS.Call
import HandS.List
import HandS.Comp
import HandS.Ends
import HandS.Words
import HandS.WordsList
import HandS.Iter
import HandS.Text
import HandS.Codes
import PyProof.StrBlock2
import HandS.Wide
import HandS.IsInst
import HandS.Defaults
import HandS.Head0
import HandS.Head1
import HandS.Head2
import HandS.HeadEnd
import HandS.HeadHook1
import HandS.HeadHook2
import HandS.Rev
import HandS.Exc
import HandS.ExcOwn
import HandS.ExcCtx
import HandS.ExcIs
import HandS.WordsExc
import HandS.HotCalls
import PySem.Challenge.RW_echofield_k02_fields
set_option Elab.async false
set_option linter.all false
set_option maxRecDepth 100000
set_option maxHeartbeats 4000000

namespace Ef
/-! Fractions: what the two halves of a tuple in lowest terms are worth. -/
theorem gcd_comm_pos {t : Int} {b : Nat} : b.gcd t.natAbs = t.natAbs.gcd b := Nat.gcd_comm _ _
theorem num_mk {t : Int} {b : Nat} (hb : b ≠ 0) : (mkRat t b).num = t / ((t.natAbs.gcd b : Nat) : Int) := by
  rw [Rat.num_mkRat, if_neg hb, Nat.gcd_comm]
theorem den_mk {t : Int} {b : Nat} (hb : b ≠ 0) : (mkRat t b).den = b / (t.natAbs.gcd b) := by
  rw [Rat.den_mkRat, if_neg hb, Nat.gcd_comm]
theorem sum_mk (p q : Rat) : mkRat (p.num * q.den + q.num * p.den) (p.den * q.den) = p + q := (Rat.add_def' p q).symm
theorem dif_mk (p q : Rat) : mkRat (p.num * q.den - q.num * p.den) (p.den * q.den) = p - q := (Rat.sub_def' p q).symm
theorem mul_mk (p q : Rat) : mkRat (p.num * q.num) (p.den * q.den) = p * q := (Rat.mul_def' p q).symm
theorem over_mk (p q : Rat) : Rat.divInt (p.num * q.den) (p.den * q.num) = p / q := by
  have h := Rat.divInt_mul_divInt p.num q.den (d₁ := p.den) (d₂ := q.num)
  rw [← h, Rat.num_divInt_den, ← Rat.inv_divInt, Rat.num_divInt_den, Rat.div_def]
theorem den_pos (q : Rat) : 0 < q.den := Nat.pos_of_ne_zero q.den_nz
theorem den_posI (q : Rat) : (0 : Int) < (q.den : Int) := Int.natCast_pos.mpr (den_pos q)
/-- small: both halves below the line -/
def Sm (q : Rat) : Prop := q.num.natAbs < 2 ^ 4500 ∧ q.den < 2 ^ 4500
theorem divInt_pos {t b : Int} (h : 0 < b) : Rat.divInt t b = mkRat t b.toNat := by
  obtain ⟨n, rfl⟩ := Int.eq_ofNat_of_zero_le (Int.le_of_lt h)
  rw [Rat.divInt_ofNat]; rfl
theorem divInt_neg {t b : Int} (h : b < 0) : Rat.divInt t b = Rat.divInt (0 - t) (0 - b) := by
  rw [Int.zero_sub, Int.zero_sub, Rat.neg_divInt_neg]
theorem mk_den_le {t : Int} {b : Nat} (hb : b ≠ 0) : (mkRat t b).den ≤ b := by
  rw [den_mk hb]
  exact Nat.div_le_self _ _
theorem mk_num_le {t : Int} {b : Nat} (hb : b ≠ 0) : (mkRat t b).num.natAbs ≤ t.natAbs := by
  rw [num_mk hb]
  have h : ((t.natAbs.gcd b : Nat) : Int) ∣ t := Int.ofNat_dvd_left.mpr (Nat.gcd_dvd_left _ _)
  rw [Int.natAbs_ediv_of_dvd h, Int.natAbs_natCast]
  exact Nat.div_le_self _ _
theorem sm_mk {t : Int} {b : Nat} (hb : b ≠ 0) (h1 : t.natAbs < 2 ^ 4500) (h2 : b < 2 ^ 4500) : Sm (mkRat t b) :=
  ⟨Nat.lt_of_le_of_lt (mk_num_le hb) h1, Nat.lt_of_le_of_lt (mk_den_le hb) h2⟩
end Ef
namespace Ef
open PySem PySem.Spec PyProof.Rows L2
/-! ### fractions in the heap -/
/-- a thing that is never changed -/
def fixO : HO → Bool
  | .lst _ => false
  | .ins _ _ _ => false
  | _ => true
/-- all but lists and instances is as it was -/
def Kt (H H' : Hp) : Prop := ∀ b o, H b = some o → fixO o = true → H' b = some o
theorem Kt.refl (H : Hp) : Kt H H := fun _ _ h _ => h
theorem Kt.trans {H H1 H2 : Hp} (a : Kt H H1) (b : Kt H1 H2) : Kt H H2 := fun c o h z => b c o (a c o h z) z
theorem kt_of {H H' : Hp} (s : Same H H') : Kt H H' := fun b o h _ => s b o h
theorem Kt.set {H : Hp} {l : Addr} {xs ys : List V} (h : H l = some (.lst xs)) : Kt H (upd H l (.lst ys)) := fun b o e z => by
  have nb : b ≠ l := fun q => by
    rw [q, h] at e
    cases Option.some.inj e
    cases z
  rw [upd_ne nb]
  exact e
theorem Kt.obj {H : Hp} {p C dx : Addr} {fs : List (Str × V)} {u : HO} (h : H p = some (.ins C dx fs)) : Kt H (upd H p u) := fun b o e z => by
  have nb : b ≠ p := fun q => by
    rw [q, h] at e
    cases Option.some.inj e
    cases z
  rw [upd_ne nb]
  exact e
theorem Kt.new {H : Hp} {l : Addr} {u : HO} (h : H l = none) : Kt H (upd H l u) := fun b o e _ => by
  rw [upd_ne (ne_of_none e h)]
  exact e
theorem same_new {H : Hp} {l : Addr} {u : HO} (h : H l = none) : Same H (upd H l u) := fun b o e => by
  rw [upd_ne (ne_of_none e h)]
  exact e
theorem Kt.tup {K : PySem.W.Frag} {H H' : Hp} (k : Kt H H') {a : Addr} {xs : List V} (h : SqT K H a xs) : SqT K H' a xs := by
  rcases h with (h | ⟨o, h⟩) | h
  · exact .inl (.inl (k _ _ h rfl))
  · exact .inl (.inr ⟨o, k _ _ h rfl⟩)
  · exact .inr h
/-- at v stands the fraction q in lowest terms -/
def RatAt (K : PySem.W.Frag) (H : Hp) (v : V) (q : Rat) : Prop := ∃ a, v = .ref a ∧ SqT K H a [.int q.num, .int (q.den : Int)]
theorem RatAt.kt {K : PySem.W.Frag} {H H' : Hp} (k : Kt H H') {v : V} {q : Rat} (h : RatAt K H v q) : RatAt K H' v q := by
  obtain ⟨a, e, t⟩ := h
  exact ⟨a, e, k.tup t⟩
theorem RatAt.same {K : PySem.W.Frag} {H H' : Hp} (k : Same H H') {v : V} {q : Rat} (h : RatAt K H v q) : RatAt K H' v q := h.kt (kt_of k)
/-! ### own rules -/
section
variable {X : Cx}
/-- the top, the bottom of the fraction in slot i -/
def tNum (K : PySem.W.Frag) (i : Nat) : TE := fun σ H Q => ∃ v q, σ[i]? = some (some v) ∧ RatAt K H v q ∧ Q (.int q.num) H
def tDen (K : PySem.W.Frag) (i : Nat) : TE := fun σ H Q => ∃ v q, σ[i]? = some (some v) ∧ RatAt K H v q ∧ Q (.int (q.den : Int)) H
theorem pe_num (i : Nat) {x : Str} {p p2 pos : Pos} {j : Nat} (hN : X.N[i]? = some x := by rfl) (hv : Vis X.env.scope x := by first | exact Or.inl rfl | exact Or.inr (Or.inl rfl) | exact Or.inr (Or.inr rfl)) (hd : (x == ("__debug__" : Str)) = false := by decide)
    (hcd : (x == ("__classdict__" : Str)) = false := by decide) : PE X (.Subscript (.Name x p) (.Constant (.int 0) j p2) pos) (tNum X.K i) := by
  refine ⟨fun pins s σ H Q I h => (pe_ix ix_tup (pe_var hN hv hd hcd) pe_int (fun _ _ => rfl)).run pins s σ H Q I ?_⟩
  obtain ⟨v, q, e, ⟨a, rfl, t⟩, h⟩ := h
  exact ⟨_, e, a, _, _, _, rfl, rfl, t, rfl, h⟩
theorem pe_den (i : Nat) {x : Str} {p p2 pos : Pos} {j : Nat} (hN : X.N[i]? = some x := by rfl) (hv : Vis X.env.scope x := by first | exact Or.inl rfl | exact Or.inr (Or.inl rfl) | exact Or.inr (Or.inr rfl)) (hd : (x == ("__debug__" : Str)) = false := by decide)
    (hcd : (x == ("__classdict__" : Str)) = false := by decide) : PE X (.Subscript (.Name x p) (.Constant (.int 1) j p2) pos) (tDen X.K i) := by
  refine ⟨fun pins s σ H Q I h => (pe_ix ix_tup (pe_var hN hv hd hcd) pe_int (fun _ _ => rfl)).run pins s σ H Q I ?_⟩
  obtain ⟨v, q, e, ⟨a, rfl, t⟩, h⟩ := h
  exact ⟨_, e, a, _, _, _, rfl, rfl, t, rfl, h⟩
end
theorem ifT {c : Bool} {A B : Prop} (hc : c = true) (h : A) : if c = true then A else B := by
  rw [if_pos hc]
  exact h
theorem ifF {c : Bool} {A B : Prop} (hc : c = false) (h : B) : if c = true then A else B := by
  rw [hc, if_neg Bool.false_ne_true]
  exact h
theorem if2 {c A B : Prop} [Decidable c] (h1 : c → A) (h2 : ¬ c → B) : if decide c = true then A else B := by
  by_cases h : c
  · exact ifT (decide_eq_true h) (h1 h)
  · exact ifF (decide_eq_false h) (h2 h)
theorem ifB {c : Bool} {A B : Prop} (h1 : c = true → A) (h2 : c = false → B) : if c = true then A else B := by
  cases c with
  | true => exact ifT rfl (h1 rfl)
  | false => exact ifF rfl (h2 rfl)
/-! ### promises of the reckoning -/
/-- common: of two numbers not below nought -/
def spCommon : Sp := fun vs H Q _ => ∃ a b : Nat, vs = [.int a, .int b] ∧ Q (.int (Nat.gcd a b : Nat)) H
/-- fraction: the bottom not nought and below a line -/
def spFraction (K : PySem.W.Frag) : Sp := fun vs H Q _ => ∃ t b : Int, vs = [.int t, .int b] ∧ b ≠ 0 ∧ b.natAbs < 2 ^ 9000 ∧ ∀ p H', Same H H' → RatAt K H' (.ref p) (Rat.divInt t b) → Q (.ref p) H'
/-- the same, the bottom above nought -/
def spLow (K : PySem.W.Frag) : Sp := fun vs H Q _ => ∃ (t : Int) (b : Nat), vs = [.int t, .int b] ∧ b ≠ 0 ∧ b < 2 ^ 9000 ∧ ∀ p H', Same H H' → RatAt K H' (.ref p) (mkRat t b) → Q (.ref p) H'
/-- an operation of two small fractions -/
def spOp2 (K : PySem.W.Frag) (f : Rat → Rat → Rat) : Sp := fun vs H Q _ => ∃ u v p q, vs = [u, v] ∧ RatAt K H u p ∧ RatAt K H v q ∧ Sm p ∧ Sm q ∧ ∀ r H', Same H H' → RatAt K H' (.ref r) (f p q) → Q (.ref r) H'
def spOver (K : PySem.W.Frag) : Sp := fun vs H Q _ => ∃ u v p q, vs = [u, v] ∧ RatAt K H u p ∧ RatAt K H v q ∧ Sm p ∧ Sm q ∧ q ≠ 0 ∧ ∀ r H', Same H H' → RatAt K H' (.ref r) (p / q) → Q (.ref r) H'
theorem sm_mul {a b : Nat} (ha : a < 2 ^ 4500) (hb : b < 2 ^ 4500) : a * b < 2 ^ 9000 := by
  have h : a * b < 2 ^ 4500 * 2 ^ 4500 := Nat.mul_lt_mul'' ha hb
  have e : (2 : Nat) ^ 4500 * 2 ^ 4500 = 2 ^ 9000 := (Nat.pow_add 2 4500 4500).symm
  rw [e] at h
  exact h
theorem cm {i j : Int} (ha : i.natAbs < 2 ^ 4500) (hb : j.natAbs < 2 ^ 4500) : CMulW i j := wide_mul ha hb (by decide) (by decide) (by decide)
theorem natAbs_den (q : Rat) : ((q.den : Int)).natAbs = q.den := Int.natAbs_natCast _
theorem gcd_pos_of {a b : Nat} (hb : b ≠ 0) : 0 < Nat.gcd a b := Nat.gcd_pos_of_pos_right _ (Nat.pos_of_ne_zero hb)
theorem gcd_lt_of {a b n : Nat} (hb : b ≠ 0) (h : b < n) : Nat.gcd a b < n := Nat.lt_of_le_of_lt (Nat.le_of_dvd (Nat.pos_of_ne_zero hb) (Nat.gcd_dvd_right a b)) h
theorem rat_new {K : PySem.W.Frag} {H : Hp} {p : Addr} {q : Rat} {x y : V} (ex : x = .int q.num) (ey : y = .int (q.den : Int)) : RatAt K (upd H p (.tup [x, y])) (.ref p) q := ⟨p, rfl, by rw [ex, ey]; exact SqT.of upd_same⟩
/-! ### lists of fractions -/
def Rats (K : PySem.W.Frag) (H : Hp) (xs : List V) (qs : List Rat) : Prop := xs.length = qs.length ∧ ∀ (i : Nat) (v : V) (q : Rat), xs[i]? = some v → qs[i]? = some q → RatAt K H v q
def RL (K : PySem.W.Frag) (H : Hp) (l : Addr) (qs : List Rat) : Prop := ∃ xs, H l = some (.lst xs) ∧ Rats K H xs qs
section
variable {K : PySem.W.Frag} {H H' : Hp} {xs ys : List V} {qs ps : List Rat} {l : Addr}
theorem Rats.kt (k : Kt H H') (h : Rats K H xs qs) : Rats K H' xs qs := ⟨h.1, fun i v q a b => (h.2 i v q a b).kt k⟩
theorem Rats.nil : Rats K H [] [] := ⟨rfl, fun i v q a _ => by simp at a⟩
theorem Rats.get (h : Rats K H xs qs) {i : Nat} {q : Rat} (e : qs[i]? = some q) : ∃ v, xs[i]? = some v ∧ RatAt K H v q := by
  have hi : i < qs.length := (List.getElem?_eq_some_iff.mp e).1
  have hx : i < xs.length := by rw [h.1]; exact hi
  exact ⟨xs[i], List.getElem?_eq_getElem hx, h.2 i _ q (List.getElem?_eq_getElem hx) e⟩
theorem Rats.set (h : Rats K H xs qs) {i : Nat} {v : V} {q : Rat} (r : RatAt K H v q) : Rats K H (xs.set i v) (qs.set i q) := by
  refine ⟨by rw [List.length_set, List.length_set, h.1], fun j u p a b => ?_⟩
  rw [List.getElem?_set] at a b
  by_cases e : i = j
  · rw [if_pos e] at a b
    split at a
    · split at b
      · cases a
        cases b
        exact r
      · cases b
    · cases a
  · rw [if_neg e] at a b
    exact h.2 j u p a b
theorem Rats.append (h : Rats K H xs qs) (h2 : Rats K H ys ps) : Rats K H (xs ++ ys) (qs ++ ps) := by
  refine ⟨by rw [List.length_append, List.length_append, h.1, h2.1], fun j u p a b => ?_⟩
  rw [List.getElem?_append] at a b
  rw [h.1] at a
  split at a
  · rename_i hj
    rw [if_pos hj] at b
    exact h.2 j u p a b
  · rename_i hj
    rw [if_neg hj] at b
    exact h2.2 _ u p a b
theorem Rats.one {v : V} {q : Rat} (r : RatAt K H v q) : Rats K H [v] [q] := ⟨rfl, fun i u p a b => by
  cases i with
  | zero =>
    cases (Option.some.inj a)
    cases (Option.some.inj b)
    exact r
  | succ i => simp at a⟩
theorem Rats.push (h : Rats K H xs qs) {v : V} {q : Rat} (r : RatAt K H v q) : Rats K H (xs ++ [v]) (qs ++ [q]) := h.append (Rats.one r)
theorem Rats.cons {v : V} {q : Rat} (r : RatAt K H v q) (h : Rats K H xs qs) : Rats K H (v :: xs) (q :: qs) := (Rats.one r).append h
theorem RL.same (k : Same H H') (h : RL K H l qs) : RL K H' l qs := by
  obtain ⟨xs, e, r⟩ := h
  exact ⟨xs, k _ _ e, r.kt (kt_of k)⟩
theorem RL.kt (k : Kt H H') (h : RL K H l qs) (hl : H' l = H l) : RL K H' l qs := by
  obtain ⟨xs, e, r⟩ := h
  exact ⟨xs, hl.trans e, r.kt k⟩
theorem RL.new {p : Addr} (hp : H p = none) (r : Rats K H xs qs) : RL K (upd H p (.lst xs)) p qs := ⟨xs, upd_same, r.kt (Kt.new hp)⟩
theorem RL.upd {xs0 : List V} (h : H l = some (.lst xs0)) (r : Rats K H xs qs) : RL K (upd H l (.lst xs)) l qs := ⟨xs, upd_same, r.kt (Kt.set h)⟩
/-- an item read -/
theorem ixr {Q : VK} {z : Int} {k : Nat} {q : Rat} (h : RL K H l qs) (hq : qs[k]? = some q) (hz : z = (k : Int)) (hQ : ∀ v, RatAt K H v q → Q v H) : rIxL K (.ref l) (.int z) H Q := by
  obtain ⟨xs, e, r⟩ := h
  obtain ⟨v, e2, rv⟩ := r.get hq
  exact ⟨l, xs, z, v, rfl, rfl, SqL.of e, at_of hz e2, hQ v rv⟩
/-- the data of a fraction, of a list of them -/
def dRat (q : Rat) : PyData := .tuple [.int q.num, .int (q.den : Int)]
def dRats (qs : List Rat) : PyData := .list (qs.map dRat)
theorem RatAt.dp {v : V} {q : Rat} (h : RatAt K H v q) : Dp K H v (dRat q) := by
  obtain ⟨a, rfl, t⟩ := h
  exact .tup t (.cons (.int _) (.cons (.int _) .nil))
theorem Rats.dp : ∀ {xs : List V} {qs : List Rat}, Rats K H xs qs → DpAll K H xs (qs.map dRat)
  | [], [], _ => .nil
  | [], _ :: _, h => by cases h.1
  | _ :: _, [], h => by cases h.1
  | v :: xs, q :: qs, h => .cons (h.2 0 v q rfl rfl).dp (Rats.dp ⟨Nat.succ.inj h.1, fun i u p a b => h.2 (i + 1) u p a b⟩)
theorem RL.dp (h : RL K H l qs) : Dp K H (.ref l) (dRats qs) := by
  obtain ⟨xs, e, r⟩ := h
  exact .lst (SqL.of e) r.dp
theorem rat_ext {p q : Rat} (h1 : p.num = q.num) (h2 : (p.den : Int) = (q.den : Int)) : p = q := Rat.ext h1 (Int.ofNat.inj h2)
theorem eqv_rat (p q : Rat) : PyData.eqv (dRat p) (dRat q) = decide (p = q) := by
  show ((p.num == q.num) && (((p.den : Int) == (q.den : Int)) && true)) = decide (p = q)
  rw [Bool.and_true]
  by_cases e : p = q
  · subst e
    simp
  · rw [decide_eq_false e]
    refine Bool.eq_false_iff.mpr fun z => e ?_
    obtain ⟨z1, z2⟩ := Bool.and_eq_true_iff.mp z
    exact rat_ext (eq_of_beq z1) (eq_of_beq z2)
theorem eqv_all : ∀ (ps qs : List Rat), PyData.eqvAll (ps.map dRat) (qs.map dRat) = decide (ps = qs)
  | [], [] => rfl
  | [], _ :: _ => rfl
  | _ :: _, [] => rfl
  | p :: ps, q :: qs => by
    show (PyData.eqv (dRat p) (dRat q) && PyData.eqvAll (ps.map dRat) (qs.map dRat)) = _
    rw [eqv_rat, eqv_all ps qs]
    by_cases e : p = q
    · subst e
      by_cases e2 : ps = qs
      · subst e2
        simp
      · simp [e2]
    · simp [e]
theorem eqv_rats (ps qs : List Rat) : PyData.eqv (dRats ps) (dRats qs) = decide (ps = qs) := eqv_all ps qs
theorem sh_rat (q : Rat) : SeqAt.shaped (dRat q) = true := by rfl
end
end Ef
namespace Ef
open PySem PySem.Spec PyProof.Rows L2
theorem can_rats : ∀ qs : List Rat, PyData.canLayAll0 (qs.map dRat) = true
  | [] => rfl
  | q :: qs => by
    show (PyData.canLay0 (dRat q) && PyData.canLayAll0 (qs.map dRat)) = true
    rw [can_rats qs]
    rfl
theorem dep_rats : ∀ qs : List Rat, PyData.depthAll (qs.map dRat) ≤ 1
  | [] => by decide
  | q :: qs => by
    show max (PyData.depth (dRat q)) (PyData.depthAll (qs.map dRat)) ≤ 1
    have h1 : PyData.depth (dRat q) = 1 := rfl
    have h2 := dep_rats qs
    rw [h1]
    omega
theorem sh_rats (qs : List Rat) : SeqAt.shaped (dRats qs) = true := by
  have h1 : PyData.canLay0 (dRats qs) = true := can_rats qs
  have h2 : PyData.depth (dRats qs) ≤ 64 := by
    show PyData.depthAll (qs.map dRat) + 1 ≤ 64
    have := dep_rats qs
    omega
  show (PyData.canLay0 (dRats qs) && decide (PyData.depth (dRats qs) ≤ 64)) = true
  rw [h1, decide_eq_true h2]
  rfl
/-! ### defs by name -/
abbrev FnP (K : PySem.W.Frag) (x q : Str) (st : Stmt) (f : Addr) (fd : FuncData) : Prop := FunD K x q (defArgs st) (defBody st) (defScope st) [] [] f fd
/-- the def x of the module stands as the statement st -/
def Df (K : PySem.W.Frag) (mg : Str → Option Value) (x : Str) (st : Stmt) : Prop := ∃ f fd, FnP K x x st f fd ∧ mg x = some (.ref f)
/-- the def x of the module keeps the promise sp -/
def Gd (CX : CXT) (P : Program) (w : World) (K : PySem.W.Frag) (mg : Str → Option Value) (base : Heap) (k : Nat) (x : Str) (ps : List Str) (sp : Sp) : Prop :=
  ∃ f fd, FnOk P w K mg base CX k f fd ps sp ∧ mg x = some (.ref f) ∧ PySem.W.keepIn K (.ref f) = true ∧ Binds K fd ps []
section
variable {CX : CXT} {P : Program} {w : World} {K : PySem.W.Frag} {mg : Str → Option Value} {base : Heap} {x : Str} {st : Stmt} {N ps : List Str} {k : Nat} {sp : Sp}
def Gf (CX : CXT) (P : Program) (w : World) (K : PySem.W.Frag) (mg : Str → Option Value) (base : Heap) (k : Nat) (x : Str) (st : Stmt) (ps : List Str) (sp : Sp) : Prop := ∀ f fd, FnP K x x st f fd → FnOk P w K mg base CX k f fd ps sp
theorem gf_of (S : FnScope N ps (defScope st)) (len : ∀ vs H Q E, sp vs H Q E → vs.length = ps.length)
    (body : ∀ (f : Addr) (cdv : Value) (A : Around) (outer : List Env) (s : Shared) (H : Hp) (vs : List V) (Q : VK) (E : XK), Room k (A.deeper (envOfC x (defScope st) s.heap.objs.size f cdv)) → sp vs H Q E →
      ∃ t, PSs (cxOf CX P w K mg base N x (defScope st) f cdv A outer s H E) (defBody st) t ∧ t { nx := fun _ H' => Q .non H', rt := Q } (start N vs) H) : Gf CX P w K mg base (k + 1) x st ps sp :=
  fun f _ F => F.ok S len (body f)
theorem gd_of (D : Df K mg x st) (S : FnScope N ps (defScope st))
    (hb : ∀ (kV doc pm : Value) (an : Option Addr) (cdv ct : Value) (us : List Value), us.length = ps.length → bindArgs (PySem.W.fnOf x x (defArgs st) (defBody st) (defScope st) .none kV doc pm an cdv ct) ⟨us, []⟩ = pure (ps.zip us))
    (len : ∀ vs H Q E, sp vs H Q E → vs.length = ps.length)
    (body : ∀ (f : Addr) (cdv : Value) (A : Around) (outer : List Env) (s : Shared) (H : Hp) (vs : List V) (Q : VK) (E : XK), Room k (A.deeper (envOfC x (defScope st) s.heap.objs.size f cdv)) → sp vs H Q E →
      ∃ t, PSs (cxOf CX P w K mg base N x (defScope st) f cdv A outer s H E) (defBody st) t ∧ t { nx := fun _ H' => Q .non H', rt := Q } (start N vs) H) : Gd CX P w K mg base (k + 1) x ps sp := by
  obtain ⟨f, fd, F, g⟩ := D
  exact ⟨f, fd, gf_of S len body f fd F, g, F.kp, F.bindsN hb⟩
end
section
variable {X : Cx} {k j : Nat} {x : Str} {ps : List Str} {sp : Sp} {e : Expr} {es : List Expr} {t : TA} {p pos : Pos}
/-- f(e, ..) -/
theorem pe_gd (G : Gd CX0 X.prog X.w X.K X.mg X.base j x ps sp) (hr : Room k X.A) (ha : PA X (e :: es) t) (hjk : j ≤ k := by decide) (hg : Gl X x := by rfl) (hdb : (x == ("__debug__" : Str)) = false := by decide)
    (he : starEach (e :: es) X.env = (false, eval e X.env) :: starEach es X.env := by rfl) (hpl : (backTo pos (starEach es X.env)).any (·.1) = false := by rfl) :
    PE X (.Call (.Name x p) (e :: es) [] pos) (tCall sp [] E0 t) := by
  obtain ⟨f, fd, F, g, kp, b⟩ := G
  exact pe_call F (hr.mono hjk) hg g kp b .nil pass0 ha hdb he hpl
end
end Ef
namespace Ef
open PySem PySem.Spec PyProof.Rows L2
/-! ### facts for the walks of the reckoning -/
theorem abs_int (t : Int) : (if t < 0 then -t else t) = ((t.natAbs : Nat) : Int) := by split <;> omega
theorem low_facts (t b' : Int) (n : Nat) (eb : b' = (n : Int)) (hn : n ≠ 0) (hl : n < 2 ^ 9000) :
    CDivW t (Nat.gcd t.natAbs n : Nat) ∧ CDivW b' (Nat.gcd t.natAbs n : Nat) ∧ t / ((Nat.gcd t.natAbs n : Nat) : Int) = (mkRat t n).num ∧ b' / ((Nat.gcd t.natAbs n : Nat) : Int) = ((mkRat t n).den : Int) := by
  subst eb
  have g1 : 0 < Nat.gcd t.natAbs n := gcd_pos_of hn
  have g2 : Nat.gcd t.natAbs n < 2 ^ 9000 := gcd_lt_of hn hl
  have g3 : ((Nat.gcd t.natAbs n : Nat) : Int).natAbs < 2 ^ 9000 := by rw [Int.natAbs_natCast]; exact g2
  refine ⟨wide_div (by omega) g3 (by decide) (by decide), wide_div (by omega) g3 (by decide) (by decide), (num_mk hn).symm, ?_⟩
  rw [den_mk hn, Int.natCast_ediv]
theorem den_mul_facts {p q : Rat} (p2 : p.den < 2 ^ 4500) (q2 : q.den < 2 ^ 4500) :
    (p.den : Int) * (q.den : Int) ≠ 0 ∧ ((p.den : Int) * (q.den : Int)).natAbs < 2 ^ 9000 ∧ ∀ t : Int, Rat.divInt t ((p.den : Int) * (q.den : Int)) = mkRat t (p.den * q.den) := by
  have e : (p.den : Int) * (q.den : Int) = ((p.den * q.den : Nat) : Int) := (Int.natCast_mul _ _).symm
  refine ⟨?_, ?_, fun t => ?_⟩
  · exact Int.ne_of_gt (Int.mul_pos (den_posI p) (den_posI q))
  · rw [e, Int.natAbs_natCast]
    exact sm_mul p2 q2
  · rw [e, Rat.divInt_ofNat]
theorem den_num_facts {p q : Rat} (p2 : p.den < 2 ^ 4500) (q1 : q.num.natAbs < 2 ^ 4500) (hq : q ≠ 0) :
    (p.den : Int) * q.num ≠ 0 ∧ ((p.den : Int) * q.num).natAbs < 2 ^ 9000 := by
  have h0 : q.num ≠ 0 := fun z => hq (Rat.num_eq_zero.mp z)
  have h1 : (p.den : Int) ≠ 0 := Int.ne_of_gt (den_posI p)
  refine ⟨fun z => (Int.mul_eq_zero.mp z).elim h1 h0, ?_⟩
  rw [Int.natAbs_mul, Int.natAbs_natCast]
  exact sm_mul p2 q1
theorem den_args (t : Int) (p q : Rat) : [V.int t, V.int ((p.den : Int) * (q.den : Int))] ++ [] = [V.int t, V.int ((p.den * q.den : Nat) : Int)] := by
  rw [Int.natCast_mul]
  rfl
theorem deqT {x y : Int} (h : decide (V.int x = V.int y) = true) : x = y := V.int.inj (of_decide_eq_true h)
theorem deqF {x y : Int} (h : decide (V.int x = V.int y) = false) : x ≠ y := fun z => of_decide_eq_false h (congrArg V.int z)
/-! ### the built-in names that no module binds -/
structure Bt (mg : Str → Option Value) : Prop where
  len : mg "len" = none
  abs : mg "abs" = none
  range : mg "range" = none
  isi : mg "isinstance" = none
  int : mg "int" = none
  bool : mg "bool" = none
  list : mg "list" = none
  tuple : mg "tuple" = none
  str : mg "str" = none
  rev : mg "reversed" = none
/-! ### the law's own helpers -/
/-- the script: read, never changed -/
def Scr (K : PySem.W.Frag) (H : Hp) (a : Addr) (ns : List Int) : Prop := SqL K H a (ns.map V.int) ∧ ∀ xs, H a ≠ some (.lst xs)
theorem Scr.kt {K : PySem.W.Frag} {H H' : Hp} {a : Addr} {ns : List Int} (k : Kt H H') (h : Scr K H a ns) : SqL K H' a (ns.map V.int) := by
  obtain ⟨h1, h2⟩ := h
  rcases h1 with (h | ⟨o, h⟩) | h
  · exact absurd h (h2 _)
  · exact .inl (.inr ⟨o, k _ _ h rfl⟩)
  · exact .inr h
def cellAt (ns : List Int) (k : Nat) : Int := ns.getD k 0
def spCellAt (K : PySem.W.Frag) : Sp := fun vs H Q _ => ∃ (a : Addr) (ns : List Int) (k : Nat), vs = [.ref a, .int (k : Int)] ∧ SqL K H a (ns.map V.int) ∧ Q (.int (cellAt ns k)) H
def spWhole : Sp := fun vs H Q _ => ∃ i : Int, vs = [.int i] ∧ Q (.bl true) H
/-- 0 - other, laid as a tuple -/
theorem neg_new {K : PySem.W.Frag} {H : Hp} {p : Addr} {q : Rat} : RatAt K (upd H p (.tup [.int (0 - q.num), .int (q.den : Int)])) (.ref p) (-q) := rat_new (by rw [Rat.neg_num, Int.zero_sub]) (by rw [Rat.neg_den])
theorem sm_neg {q : Rat} (h : Sm q) : Sm (-q) := ⟨by rw [Rat.neg_num, Int.natAbs_neg]; exact h.1, h.2⟩
/-- two lists of fractions are the same -/
def spParts (K : PySem.W.Frag) : Sp := fun vs H Q _ => ∃ (l m : Addr) (qs ps : List Rat), vs = [.ref l, .ref m] ∧ RL K H l qs ∧ RL K H m ps ∧ ps.length ≤ 1000 ∧ Q (.bl (decide (qs = ps))) H
theorem tyx_tup {K : PySem.W.Frag} {H : Hp} {a : Addr} {xs : List V} (h : SqT K H a xs) : TyX K H (.ref a) (.type "tuple") := by
  rcases h with (h | ⟨o, h⟩) | ⟨o, _, _, h, c, _⟩
  · exact .base (.tup h)
  · exact .fTuple h
  · exact .kTuple h c
theorem op_mul_str {X : Cx} : OpR X (binaryOp .Mult) (fun x y H Q => ∃ z n, x = .str z ∧ y = .int n ∧ MulOk z n ∧ Q (.str (Txt.mul z n)) H) := by
  intro pins s σ H x y v u Q I rx ry h
  obtain ⟨z, n, rfl, rfl, hz, q⟩ := h
  obtain ⟨t, rfl⟩ := rx
  obtain ⟨t', rfl⟩ := ry
  exact PySem.SB.mul hz (fun t' k => ⟨.str (Txt.mul z n), H, I.tok _, ⟨_, rfl⟩, q⟩)
/-- the law: a script handed in, True comes out -/
def spLaw (K : PySem.W.Frag) : Sp := fun vs H Q _ => ∃ (a : Addr) (ns : List Int), vs = [.ref a] ∧ Scr K H a ns ∧ ns.length ≤ 63 ∧ ∀ H', Q (.bl true) H'
/-- law 1: a fraction by a number -/
def spFrac1 (K : PySem.W.Frag) : Sp := fun vs H Q _ => ∃ (c : Int), vs = [.int c] ∧ ∀ r H' q, Same H H' → Sm q → RatAt K H' (.ref r) q → Q (.ref r) H'
/-- law 1: what was told is what is due -/
def spSame (K : PySem.W.Frag) : Sp := fun vs H Q _ => ∃ (v : V) (q : Rat) (t b : Int), vs = [v, .int t, .int b] ∧ RatAt K H v q ∧ b ≠ 0 ∧ b.natAbs < 2 ^ 9000 ∧ ∀ H', Same H H' → Q (.bl (decide (q = Rat.divInt t b))) H'
/-- an item of a written list of ints at a reckoned place -/
theorem ix_ints {K : PySem.W.Frag} {H : Hp} {Q : VK} {p : Addr} {bs : List Int} {z : Int} (hp : H p = some (.lst (bs.map V.int))) (h0 : 0 ≤ z) (h1 : z < bs.length) (hQ : ∀ b ∈ bs, Q (.int b) H) : rIxL K (.ref p) (.int z) H Q := by
  obtain ⟨n, rfl⟩ := Int.eq_ofNat_of_zero_le h0
  have hn : n < bs.length := by omega
  refine ⟨p, _, _, .int bs[n], rfl, rfl, SqL.of hp, atI_nat ?_, hQ _ (List.getElem_mem hn)⟩
  rw [List.getElem?_map, List.getElem?_eq_getElem hn]
  rfl
end Ef
namespace Ef
open PySem PySem.Spec PyProof.Rows L2
/-! ### the head: facts by names, and one test of our own -/
abbrev AlX : Type := He.AlD × Bool
def obsX (fa : List He.Fa) (fn : List He.DefD) (xb : PySem.W.Frag → Bool) (K : PySem.W.Frag) : AlX := (He.obsD fa fn K, xb K)
def obsXG (n : Nat) (fa : List He.Fa) (fn : List He.DefD) (xb : PySem.W.Frag → Bool) (g : Addr → Option Obj) : AlX := obsX fa fn xb (He.frG g (He.asD g n))
def SaysX (fa : List He.Fa) (fn : List He.DefD) (xb : PySem.W.Frag → Bool) (K : PySem.W.Frag) : Prop := obsX fa fn xb K = (He.valD fn, true)
def hookX (n : Nat) (fa : List He.Fa) (fn : List He.DefD) (xb : PySem.W.Frag → Bool) : PySem.W.Hook where
  α := AlX
  obs := fun s => obsXG n fa fn xb s.heap.get?
  val := fun _ => (He.valD fn, true)
  says := fun _ h => ∃ K : PySem.W.Frag, K.In h ∧ SaysX fa fn xb K
  of := fun _ _ e => ⟨_, He.frG_in, e⟩
  keeps := fun _ _ _ ⟨K, hK, c⟩ k => ⟨K, PySem.W.Frag.In.keeps hK k, c⟩
theorem obsXG_eq {n : Nat} {fa : List He.Fa} {fn : List He.DefD} {xb : PySem.W.Frag → Bool} {g : Addr → Option Obj} {s : Shared} (h : ∀ a, g a = s.heap.get? a) : obsXG n fa fn xb g = (hookX n fa fn xb).obs s := by
  have e : g = s.heap.get? := funext h
  rw [e] <;> rfl
theorem SaysX.d {fa : List He.Fa} {fn : List He.DefD} {xb : PySem.W.Frag → Bool} {K : PySem.W.Frag} (c : SaysX fa fn xb K) : He.SaysD fa fn K := congrArg Prod.fst c
theorem SaysX.x {fa : List He.Fa} {fn : List He.DefD} {xb : PySem.W.Frag → Bool} {K : PySem.W.Frag} (c : SaysX fa fn xb K) : xb K = true := congrArg Prod.snd c
def dfD (x : Str) (st : Stmt) : He.DefD := ⟨(x, none), x, x, defArgs st, defBody st, defScope st, [], []⟩
def mtD (C m q : Str) (st : Stmt) : He.DefD := ⟨(C, some m), m, q, defArgs st, defBody st, defScope st, [], []⟩
section
variable {fa : List He.Fa} {fn : List He.DefD} {xb : PySem.W.Frag → Bool} {K : PySem.W.Frag} {h : Heap} {mg : Str → Option Value}
theorem df_of (c : SaysX fa fn xb K) (X : K.In h) (G : h.Ns mainGlobals mg) (i j : Nat) {x : Str} {st : Stmt} (hd : fn[i]? = some (dfD x st) := by rfl) (hf : fa[j]? = some (.glo x) := by rfl) : Df K mg x st := by
  obtain ⟨fd, F⟩ := c.d.def_ i hd
  exact ⟨_, fd, F, He.glo_ok X G (c.d.fact j hf)⟩
end
def btNames : List Str := ["len", "abs", "range", "isinstance", "int", "bool", "list", "tuple", "str", "reversed"]
def btFa : List He.Fa := btNames.map He.Fa.free
theorem bt_of {fn : List He.DefD} {xb : PySem.W.Frag → Bool} {K : PySem.W.Frag} {h : Heap} {mg : Str → Option Value} {fa : List He.Fa} (c : SaysX (btFa ++ fa) fn xb K) (X : K.In h) (G : h.Ns mainGlobals mg) : Bt mg :=
  ⟨He.free_ok X G (c.d.fact 0 (f := .free "len") rfl), He.free_ok X G (c.d.fact 1 (f := .free "abs") rfl), He.free_ok X G (c.d.fact 2 (f := .free "range") rfl), He.free_ok X G (c.d.fact 3 (f := .free "isinstance") rfl), He.free_ok X G (c.d.fact 4 (f := .free "int") rfl),
   He.free_ok X G (c.d.fact 5 (f := .free "bool") rfl), He.free_ok X G (c.d.fact 6 (f := .free "list") rfl), He.free_ok X G (c.d.fact 7 (f := .free "tuple") rfl), He.free_ok X G (c.d.fact 8 (f := .free "str") rfl), He.free_ok X G (c.d.fact 9 (f := .free "reversed") rfl)⟩
/-- the script as the law is handed it -/
theorem scr_of {K : PySem.W.Frag} {H : Hp} {a : Addr} {ns : List Int} (hO : Only H) (hS : SqL K H a (ns.map V.int)) : Scr K H a ns := by
  refine ⟨hS, fun xs e => ?_⟩
  rcases hO a with z | ⟨o, ys, z⟩
  · rw [e] at z
    cases z
  · rw [e] at z
    cases z
end Ef
namespace Ef
open PySem PySem.Spec PyProof.Rows L2
/-! ### the mirror of the sounds -/
/-- a row of n + 1 cells -/
def tab (n : Nat) (f : Nat → Rat) : List Rat := (List.range (n + 1)).map f
def at0 (l : List Rat) (i : Nat) : Rat := l.getD i 0
/-- what goes to the right, to the left at the next moment -/
def nR (W r l : Nat → Rat) (j : Nat) : Rat := if j = 0 then 0 else r (j - 1) * (1 - W (j - 1)) + l j * W (j - 1)
def nL (n : Nat) (W r l : Nat → Rat) (j : Nat) : Rat := if j < n then r j * W j + l (j + 1) * (1 - W j) else 0
def stt (n : Nat) (W : Nat → Rat) : Nat → (Nat → Rat) × (Nat → Rat)
  | 0 => (fun j => if j = 0 then 1 else 0, fun _ => 0)
  | t + 1 => (nR W (stt n W t).1 (stt n W t).2, nL n W (stt n W t).1 (stt n W t).2)
def goR (n : Nat) (W : Nat → Rat) (t : Nat) : Nat → Rat := (stt n W t).1
def goL (n : Nat) (W : Nat → Rat) (t : Nat) : Nat → Rat := (stt n W t).2
def ears (n : Nat) (W : Nat → Rat) (m : Nat) : List Rat := (List.range m).map fun t => goL n W t 0
def gone (n : Nat) (W : Nat → Rat) (m : Nat) : List Rat := (List.range m).map fun t => goR n W t n
/-- what a step reckons with is small -/
structure StepAt (a w b : Rat) : Prop where
  sa : Sm a
  sw : Sm w
  sb : Sm b
  aw : Sm (a * w)
  ad : Sm (a - a * w)
  bw : Sm (b * w)
  bd : Sm (b - b * w)
  w1 : Sm (1 - w)
  av : Sm (a * (1 - w))
  bv : Sm (b * (1 - w))
def StepOk (n : Nat) (W r l : Nat → Rat) : Prop := ∀ k, k < n → StepAt (r k) (W k) (l (k + 1))
def RunOk (n : Nat) (W : Nat → Rat) (m : Nat) : Prop := ∀ t, t < m → StepOk n W (goR n W t) (goL n W t)
theorem tab_len (n : Nat) (f : Nat → Rat) : (tab n f).length = n + 1 := by unfold tab; rw [List.length_map, List.length_range]
theorem tab_get {n : Nat} {f : Nat → Rat} {i : Nat} (h : i ≤ n) : (tab n f)[i]? = some (f i) := by
  unfold tab
  rw [List.getElem?_map, List.getElem?_range (by omega)]
  rfl
theorem tab_congr {n : Nat} {f g : Nat → Rat} (h : ∀ j, j ≤ n → f j = g j) : tab n f = tab n g := by
  unfold tab
  refine List.map_congr_left fun j hj => h j ?_
  have := List.mem_range.mp hj
  omega
theorem tab_set {n : Nat} {f : Nat → Rat} {i : Nat} {q : Rat} : (tab n f).set i q = tab n (fun j => if j = i then q else f j) := by
  refine List.ext_getElem? fun j => ?_
  rw [List.getElem?_set, tab_len]
  by_cases hj : j ≤ n
  · rw [tab_get hj, tab_get hj]
    by_cases e : i = j
    · rw [if_pos e, if_pos (by omega), if_pos e.symm]
    · rw [if_neg e, if_neg (fun z => e z.symm)]
  · rw [List.getElem?_eq_none (by rw [tab_len]; omega), List.getElem?_eq_none (l := tab n _) (by rw [tab_len]; omega)]
    split
    · rw [if_neg (by omega)]
    · rfl
theorem rep_tab (n : Nat) : List.replicate (n + 1) (0 : Rat) = tab n (fun _ => 0) := by
  refine List.ext_getElem? fun j => ?_
  rw [List.getElem?_replicate]
  by_cases hj : j ≤ n
  · rw [if_pos (by omega), tab_get hj]
  · rw [if_neg (by omega), List.getElem?_eq_none (by rw [tab_len]; omega)]
theorem one_tab (n : Nat) : [1] ++ List.replicate n (0 : Rat) = tab n (fun j => if j = 0 then 1 else 0) := by
  refine List.ext_getElem? fun j => ?_
  cases j with
  | zero => rw [tab_get (Nat.zero_le _)]; rfl
  | succ j =>
    rw [List.getElem?_append_right (by simp), List.getElem?_replicate]
    by_cases hj : j + 1 ≤ n
    · rw [if_pos (by simp; omega), tab_get hj, if_neg (by omega)]
    · rw [if_neg (by simp; omega), List.getElem?_eq_none (by rw [tab_len]; omega)]
theorem at0_get {ws : List Rat} {k : Nat} (h : k < ws.length) : ws[k]? = some (at0 ws k) := by
  unfold at0
  rw [List.getD_eq_getElem?_getD, List.getElem?_eq_getElem h]
  rfl
theorem ears_succ (n : Nat) (W : Nat → Rat) (m : Nat) : ears n W (m + 1) = ears n W m ++ [goL n W m 0] := by unfold ears; rw [List.range_succ, List.map_append]; rfl
theorem gone_succ (n : Nat) (W : Nat → Rat) (m : Nat) : gone n W (m + 1) = gone n W m ++ [goR n W m n] := by unfold gone; rw [List.range_succ, List.map_append]; rfl
theorem ears_len (n : Nat) (W : Nat → Rat) (m : Nat) : (ears n W m).length = m := by unfold ears; rw [List.length_map, List.length_range]
theorem gone_len (n : Nat) (W : Nat → Rat) (m : Nat) : (gone n W m).length = m := by unfold gone; rw [List.length_map, List.length_range]
/-! ### heaps once more -/
section
variable {K : PySem.W.Frag} {H0 H H' : Hp} {l : Addr} {qs : List Rat}
theorem same_but (s : Same H0 H) (h0 : H0 l = none) (hb : ∀ b, b ≠ l → H' b = H b) : Same H0 H' := fun b o e => by
  rw [hb b (ne_of_none e h0)]
  exact s b o e
/-- an item stored -/
theorem ixs {Q : Hp → Prop} {z : Int} {i : Nat} {v : V} {q : Rat} (h : RL K H l qs) (hi : i < qs.length) (hz : z = (i : Int)) (r : RatAt K H v q)
    (hQ : ∀ H', Kt H H' → (∀ b, b ≠ l → H' b = H b) → RL K H' l (qs.set i q) → Q H') : rSetL (.ref l) (.int z) v H Q := by
  obtain ⟨xs, e, rx⟩ := h
  have hx : i < xs.length := by rw [rx.1]; exact hi
  refine ⟨l, xs, z, i, rfl, rfl, e, ?_, hQ _ (Kt.set e) (fun b hb => upd_ne hb) (RL.upd e (rx.set r))⟩
  unfold ixN
  rw [if_pos (by omega), if_pos (by omega)]
  congr 1
  omega
/-- an item put behind -/
theorem ixa {Q : VK} {v : V} {q : Rat} (h : RL K H l qs) (hn : qs.length < 1000) (r : RatAt K H v q)
    (hQ : ∀ H', Kt H H' → (∀ b, b ≠ l → H' b = H b) → RL K H' l (qs ++ [q]) → Q .non H') : rAppend (.ref l) [v] H Q := by
  obtain ⟨xs, e, rx⟩ := h
  exact ⟨l, xs, v, rfl, rfl, e, Nat.lt_of_lt_of_le (by rw [rx.1]; exact hn) (by decide), hQ _ (Kt.set e) (fun b hb => upd_ne hb) (RL.upd e (rx.push r))⟩
theorem RL.len_eq (h : RL K H l qs) : ∃ xs, H l = some (.lst xs) ∧ xs.length = qs.length := by
  obtain ⟨xs, e, rx⟩ := h
  exact ⟨xs, e, rx.1⟩
theorem ty_list (h : RL K H l qs) : tyV K "list" (.ref l) H := by
  obtain ⟨xs, e, rx⟩ := h
  exact .inl ⟨rfl, _, SqL.of e⟩
end
/-- a comprehension without a test -/
theorem yesQ {σ : L2.St} {H : Hp} {Q : Bool → Hp → Prop} (h : Q true H) : tYes σ H Q := h
theorem cI {v : V} {σ : L2.St} {H : Hp} {Q : VK} (h : Q v H) : tC v σ H Q := h
theorem nI {σ : L2.St} {H : Hp} {Q : List V → Hp → Prop} (h : Q [] H) : tNil σ H Q := h
theorem Rats.rep {K : PySem.W.Frag} {H : Hp} {v : V} {q : Rat} (r : RatAt K H v q) (n : Nat) : Rats K H (List.replicate n v) (List.replicate n q) := by
  refine ⟨by rw [List.length_replicate, List.length_replicate], fun i u p a b => ?_⟩
  rw [List.getElem?_replicate] at a b
  split at a
  · rw [if_pos (by assumption)] at b
    cases Option.some.inj a
    cases Option.some.inj b
    exact r
  · cases a
theorem flat_rep (v : V) : ∀ n : Nat, (List.replicate n [v]).flatten = List.replicate n v
  | 0 => rfl
  | n + 1 => by rw [List.replicate_succ, List.flatten_cons, flat_rep v n]; rfl
/-- [x] * n, of a fraction -/
theorem ixrep {K : PySem.W.Frag} {H : Hp} {Q : VK} {p : Addr} {v : V} {q : Rat} {z : Int} {n : Nat} (hp : H p = some (.lst [v])) (r : RatAt K H v q) (hz : z = (n : Int)) (hn : n ≤ 1000)
    (hQ : ∀ D H', H D = none → Same H H' → RL K H' D (List.replicate n q) → Q (.ref D) H') : rRep (.ref p) (.int z) H Q := by
  subst hz
  refine ⟨p, _, [v], rfl, rfl, hp, by omega, by omega, ?_, fun D hD => ?_⟩
  · rw [Int.toNat_natCast, List.length_singleton, Nat.one_mul]
    exact Nat.le_trans hn (by decide)
  · rw [Int.toNat_natCast, flat_rep]
    exact hQ D _ hD (same_new hD) (RL.new hD (Rats.rep r n))
/-- a constant of the module, a fraction -/
def KonstQ (K : PySem.W.Frag) (mg : Str → Option Value) (x : Str) (q : Rat) : Prop := ∃ a, mg x = some (.ref a) ∧ ∀ H, RatAt K H (.ref a) q
/-! ### promises -/
def spStep (K : PySem.W.Frag) : Sp := fun vs H Q _ => ∃ (lw lr ll : Addr) (ws : List Rat) (r l : Nat → Rat), vs = [.ref lw, .ref lr, .ref ll] ∧ RL K H lw ws ∧ RL K H lr (tab ws.length r) ∧ RL K H ll (tab ws.length l) ∧ ws.length ≤ 8 ∧ StepOk ws.length (at0 ws) r l ∧
  ∀ (p a b : Addr) (u v : V) (H' : Hp), Same H H' → H p = none → H a = none → H b = none → a ≠ b → H' p = some (.tup [.ref a, .ref b, u, v]) → RL K H' a (tab ws.length (nR (at0 ws) r l)) → RL K H' b (tab ws.length (nL ws.length (at0 ws) r l)) → RatAt K H' u (l 0) → RatAt K H' v (r ws.length) → Q (.ref p) H'
/-- what a run told -/
structure RunAt (K : PySem.W.Frag) (H H' : Hp) (p a b e g : Addr) (ws : List Rat) (m : Nat) : Prop where
  tup : H' p = some (.tup [.ref a, .ref b, .ref e, .ref g])
  rt : RL K H' a (tab ws.length (goR ws.length (at0 ws) m))
  lf : RL K H' b (tab ws.length (goL ws.length (at0 ws) m))
  er : RL K H' e (ears ws.length (at0 ws) m)
  gn : RL K H' g (gone ws.length (at0 ws) m)
  na : H a = none
  nb : H b = none
  ne : H e = none
  ng : H g = none
  ab : a ≠ b
def spLRun (K : PySem.W.Frag) : Sp := fun vs H Q _ => ∃ (lw : Addr) (ws : List Rat) (m : Nat), vs = [.ref lw, .int (m : Int)] ∧ RL K H lw ws ∧ ws.length ≤ 8 ∧ m ≤ 40 ∧ RunOk ws.length (at0 ws) m ∧
  ∀ (p a b e g : Addr) (H' : Hp), Same H H' → RunAt K H H' p a b e g ws m → Q (.ref p) H'
/-! ### fields -/
abbrev FC (K : PySem.W.Frag) : Addr := He.ga K "Field"
def FieldAt (K : PySem.W.Frag) (H : Hp) (p l : Addr) (ws : List Rat) : Prop := (∃ dx, H p = some (.ins (FC K) dx [("parts", .ref l)])) ∧ RL K H l ws
theorem FieldAt.same {K : PySem.W.Frag} {H H' : Hp} {p l : Addr} {ws : List Rat} (k : Same H H') (h : FieldAt K H p l ws) : FieldAt K H' p l ws := by
  obtain ⟨⟨dx, e⟩, r⟩ := h
  exact ⟨⟨dx, k _ _ e⟩, r.same k⟩
structure FTx (K : PySem.W.Frag) (mg : Str → Option Value) : Prop where
  cl : Cls K (FC K)
  nP : NoAttr K (FC K) "parts"
  gF : mg "Field" = some (.ref (FC K))
def Unit1 (ws : List Rat) : Prop := ∀ q ∈ ws, 0 ≤ q.num ∧ q.num ≤ (q.den : Int)
def spInit (K : PySem.W.Frag) : Sp := fun vs H Q _ => ∃ (p l dx : Addr) (ws : List Rat), vs = [.ref p, .ref l] ∧ H p = some (.ins (FC K) dx []) ∧ RL K H l ws ∧ 1 ≤ ws.length ∧ ws.length ≤ 8 ∧ Unit1 ws ∧
  ∀ (m : Addr) (H' : Hp), H m = none → FieldAt K H' p m ws → (∀ b o, H b = some o → b ≠ p → H' b = some o) → Q .non H'
def spWalls (K : PySem.W.Frag) : Sp := fun vs H Q _ => ∃ (p l : Addr) (ws : List Rat), vs = [.ref p] ∧ FieldAt K H p l ws ∧ ws.length ≤ 1000 ∧ ∀ (m : Addr) (H' : Hp), H m = none → Same H H' → RL K H' m ws → Q (.ref m) H'
def InitOk (P : Program) (w : World) (K : PySem.W.Frag) (mg : Str → Option Value) (base : Heap) : Prop := ∃ f fd, FnOk P w K mg base CX0 1 f fd ["self", "walls"] (spInit K) ∧ Mk K (FC K) f ∧ Binds K fd ["self", "walls"] []
def WallsOk (P : Program) (w : World) (K : PySem.W.Frag) (mg : Str → Option Value) (base : Heap) : Prop := ∃ f fd, FnOk P w K mg base CX0 1 f fd ["self"] (spWalls K) ∧ Meth K (FC K) "walls" f ∧ Binds K fd ["self"] []
/-- a field made -/
theorem make_field {K : PySem.W.Frag} {H : Hp} {Q : Addr → Hp → Prop} {l : Addr} {ws : List Rat} (h : RL K H l ws) (h1 : 1 ≤ ws.length) (h8 : ws.length ≤ 8) (hu : Unit1 ws)
    (hQ : ∀ (p m : Addr) (H' : Hp), H p = none → H m = none → Same H H' → FieldAt K H' p m ws → Q p H') :
    ∀ x dx, H x = none → H dx = none → dx ≠ x → spInit K (.ref x :: ([.ref l] ++ [])) (upd (upd H dx (.own x)) x (.ins (FC K) dx [])) (fun v H2 => v = .non ∧ Q x H2) E0 := by
  intro x dx nx nd ne
  have s0 : Same H (upd (upd H dx (.own x)) x (.ins (FC K) dx [])) := fun b o e => by
    rw [upd_ne (ne_of_none e nx), upd_ne (ne_of_none e nd)]
    exact e
  refine ⟨x, l, dx, ws, rfl, upd_same, h.same s0, h1, h8, hu, fun m H' hm hf hk => ⟨rfl, hQ x m H' nx (s0.free hm) (fun b o e => hk b o (s0 b o e) (ne_of_none e nx)) hf⟩⟩
/-- its walls asked -/
theorem ask_walls {K : PySem.W.Frag} {σ : L2.St} {H : Hp} {Q : VK} {p l : Addr} {ws : List Rat} (h : FieldAt K H p l ws) (h8 : ws.length ≤ 1000)
    (hQ : ∀ (m : Addr) (H' : Hp), H m = none → Same H H' → RL K H' m ws → Q (.ref m) H') :
    ∃ a dx fs, V.ref p = .ref a ∧ H a = some (.ins (FC K) dx fs) ∧ fs.lookup ("walls" : Str) = none ∧ tNil σ H fun vs H2 => spWalls K (.ref p :: (vs ++ [])) H2 Q E0 := by
  obtain ⟨dx, e⟩ := h.1
  have ne : (("walls" : Str) == ("parts" : Str)) = false := by decide +kernel
  exact ⟨p, dx, _, rfl, e, by simp [List.lookup, ne], p, l, ws, rfl, h, h8, hQ⟩
def spRun (K : PySem.W.Frag) : Sp := fun vs H Q _ => ∃ (f l : Addr) (ws : List Rat) (m : Nat), vs = [.ref f, .int (m : Int)] ∧ FieldAt K H f l ws ∧ ws.length ≤ 8 ∧ m ≤ 40 ∧ RunOk ws.length (at0 ws) m ∧
  ∀ (p a b e g : Addr) (H' : Hp), Same H H' → RunAt K H H' p a b e g ws m → Q (.ref p) H'
def spGoing (K : PySem.W.Frag) : Sp := fun vs H Q _ => ∃ (f l : Addr) (ws : List Rat) (m : Nat), vs = [.ref f, .int (m : Int)] ∧ FieldAt K H f l ws ∧ ws.length ≤ 8 ∧ m ≤ 40 ∧ RunOk ws.length (at0 ws) m ∧
  ∀ (p a b : Addr) (H' : Hp), Same H H' → H' p = some (.tup [.ref a, .ref b]) → RL K H' a (tab ws.length (goR ws.length (at0 ws) m)) → RL K H' b (tab ws.length (goL ws.length (at0 ws) m)) → H a = none → H b = none → a ≠ b → Q (.ref p) H'
def spHeard (K : PySem.W.Frag) : Sp := fun vs H Q _ => ∃ (f l : Addr) (ws : List Rat) (m : Nat), vs = [.ref f, .int (m : Int)] ∧ FieldAt K H f l ws ∧ ws.length ≤ 8 ∧ m ≤ 40 ∧ RunOk ws.length (at0 ws) m ∧
  ∀ (e : Addr) (H' : Hp), Same H H' → H e = none → RL K H' e (ears ws.length (at0 ws) m) → Q (.ref e) H'
def spLost (K : PySem.W.Frag) : Sp := fun vs H Q _ => ∃ (f l : Addr) (ws : List Rat) (m : Nat), vs = [.ref f, .int (m : Int)] ∧ FieldAt K H f l ws ∧ ws.length ≤ 8 ∧ m ≤ 40 ∧ RunOk ws.length (at0 ws) m ∧
  ∀ (e : Addr) (H' : Hp), Same H H' → H e = none → RL K H' e (gone ws.length (at0 ws) m) → Q (.ref e) H'
/-! ### the law's sides -/
def sideOf (c : Int) : Rat := if c / 6 % 5 = 0 then mkRat (c / 30 % 2) 1 else mkRat (c / 30 % (1 + c % 6 + 1)) (1 + c % 6).toNat
def sidesOf (ns : List Int) (first : Nat) (most : Int) : List Rat := (List.range (1 + cellAt ns first % most).toNat).map fun k => sideOf (cellAt ns (first + 1 + k))
def spSide (K : PySem.W.Frag) : Sp := fun vs H Q _ => ∃ c : Int, vs = [.int c] ∧ ∀ r H', Same H H' → RatAt K H' (.ref r) (sideOf c) → Q (.ref r) H'
def spSides (K : PySem.W.Frag) : Sp := fun vs H Q _ => ∃ (a : Addr) (ns : List Int) (first : Nat) (most : Int), vs = [.ref a, .int (first : Int), .int most] ∧ SqL K H a (ns.map V.int) ∧ 0 < most ∧ most ≤ 1000 ∧ ∀ l H', Same H H' → H l = none → RL K H' l (sidesOf ns first most) → Q (.ref l) H'
/-- the law's moment -/
def momOf (c : Int) (n : Nat) : Int := if n < 3 ∧ c / 13 % 4 = 1 then c / 52 % 41 else c % 13
def spMoment (K : PySem.W.Frag) : Sp := fun vs H Q _ => ∃ (a l : Addr) (ns : List Int) (k : Nat) (ws : List Rat), vs = [.ref a, .int (k : Int), .ref l] ∧ SqL K H a (ns.map V.int) ∧ RL K H l ws ∧ Q (.int (momOf (cellAt ns k) ws.length)) H
end Ef
namespace Ef
/-! ### bottoms that divide -/
def IsD (D : Nat) (q : Rat) : Prop := ∃ z : Int, q * (D : Rat) = (z : Rat)
theorem nz_cast {D : Nat} (h : 0 < D) : (D : Rat) ≠ 0 := by
  intro z
  have h1 : ((D : Nat) : Rat).num = 0 := by rw [z]; rfl
  have h2 : ((D : Int)) = 0 := h1
  omega
theorem IsD.eq {D : Nat} {q : Rat} (hD : 0 < D) {z : Int} (h : q * (D : Rat) = (z : Rat)) : q = mkRat z D := by
  rw [Rat.mkRat_eq_div]
  have h0 := nz_cast hD
  have : ((D : Nat) : Rat) = ((D : Int) : Rat) := rfl
  grind
theorem IsD.den {D : Nat} {q : Rat} (hD : 0 < D) (h : IsD D q) : q.den ≤ D := by
  obtain ⟨z, h⟩ := h
  rw [IsD.eq hD h]
  exact mk_den_le (by omega)
theorem cast_le {a b : Int} (h : (a : Rat) ≤ (b : Rat)) : a ≤ b := by
  have := (Rat.le_iff (a : Rat) (b : Rat)).mp h
  simpa using this
theorem le_cast {a b : Int} (h : a ≤ b) : (a : Rat) ≤ (b : Rat) := by
  refine (Rat.le_iff (a : Rat) (b : Rat)).mpr ?_
  simpa using h
theorem nat_pos {D : Nat} (h : 0 < D) : (0 : Rat) < (D : Rat) := by
  refine (Rat.lt_iff 0 (D : Rat)).mpr ?_
  simpa using h
theorem IsD.num {D : Nat} {q : Rat} (hD : 0 < D) (h : IsD D q) (h0 : -1 ≤ q) (h1 : q ≤ 1) : q.num.natAbs ≤ D := by
  obtain ⟨z, h⟩ := h
  have e := IsD.eq hD h
  have b : z.natAbs ≤ D := by
    have p := nat_pos hD
    have c1 : (z : Rat) ≤ ((D : Int) : Rat) := by
      rw [← h]
      have := Rat.mul_le_mul_of_nonneg_right h1 (Rat.le_of_lt p)
      have e2 : ((D : Nat) : Rat) = ((D : Int) : Rat) := rfl
      grind
    have c2 : ((-(D : Int) : Int) : Rat) ≤ (z : Rat) := by
      rw [← h]
      have := Rat.mul_le_mul_of_nonneg_right h0 (Rat.le_of_lt p)
      have e2 : ((-(D : Int) : Int) : Rat) = -(D : Rat) := by rw [Rat.intCast_neg]; rfl
      grind
    have d1 := cast_le c1
    have d2 := cast_le c2
    omega
  rw [e]
  exact Nat.le_trans (mk_num_le (by omega)) b
theorem sm_of {D : Nat} {q : Rat} (hD : 0 < D) (hl : D < 2 ^ 4500) (h : IsD D q) (h0 : -1 ≤ q) (h1 : q ≤ 1) : Sm q :=
  ⟨Nat.lt_of_le_of_lt (h.num hD h0 h1) hl, Nat.lt_of_le_of_lt (h.den hD) hl⟩
theorem IsD.mul {D E : Nat} {p q : Rat} (hp : IsD D p) (hq : IsD E q) : IsD (D * E) (p * q) := by
  obtain ⟨a, ha⟩ := hp
  obtain ⟨b, hb⟩ := hq
  refine ⟨a * b, ?_⟩
  rw [Rat.intCast_mul, ← ha, ← hb, Rat.natCast_mul]
  grind
theorem IsD.add {D : Nat} {p q : Rat} (hp : IsD D p) (hq : IsD D q) : IsD D (p + q) := by
  obtain ⟨a, ha⟩ := hp
  obtain ⟨b, hb⟩ := hq
  refine ⟨a + b, ?_⟩
  rw [Rat.intCast_add, ← ha, ← hb]
  grind
theorem IsD.sub {D : Nat} {p q : Rat} (hp : IsD D p) (hq : IsD D q) : IsD D (p - q) := by
  obtain ⟨a, ha⟩ := hp
  obtain ⟨b, hb⟩ := hq
  refine ⟨a - b, ?_⟩
  rw [Rat.intCast_sub, ← ha, ← hb]
  grind
theorem IsD.up {D : Nat} {p : Rat} (hp : IsD D p) (E : Nat) : IsD (D * E) p := by
  obtain ⟨a, ha⟩ := hp
  refine ⟨a * E, ?_⟩
  rw [Rat.intCast_mul, ← ha, Rat.natCast_mul]
  have : (((E : Nat) : Int) : Rat) = (E : Rat) := rfl
  grind
theorem IsD.int (D : Nat) (n : Int) : IsD D (n : Rat) := ⟨n * D, by rw [Rat.intCast_mul]; rfl⟩
theorem IsD.zero (D : Nat) : IsD D 0 := IsD.int D 0
theorem IsD.one (D : Nat) : IsD D 1 := IsD.int D 1
theorem isD_mk {a : Int} {b e : Nat} (hb : 0 < b) : IsD (b * e) (mkRat a b) := by
  refine ⟨a * e, ?_⟩
  rw [Rat.mkRat_eq_div, Rat.natCast_mul, Rat.intCast_mul]
  have h0 := nz_cast hb
  have e1 : (((b : Nat) : Int) : Rat) = (b : Rat) := rfl
  have e2 : (((e : Nat) : Int) : Rat) = (e : Rat) := rfl
  grind
/-! ### between nought and one -/
def In01 (q : Rat) : Prop := 0 ≤ q ∧ q ≤ 1
theorem In01.mul {p q : Rat} (hp : In01 p) (hq : In01 q) : In01 (p * q) := by
  refine ⟨Rat.mul_nonneg hp.1 hq.1, ?_⟩
  have := Rat.mul_le_mul_of_nonneg_right hp.2 hq.1
  have := hq.2
  grind
theorem In01.co {q : Rat} (hq : In01 q) : In01 (1 - q) := by
  obtain ⟨a, b⟩ := hq
  constructor <;> grind
theorem In01.mix {a b w : Rat} (ha : In01 a) (hb : In01 b) (hw : In01 w) : In01 (a * (1 - w) + b * w) := by
  have h1 := ha.mul hw.co
  have h2 := hb.mul hw
  refine ⟨by have := h1.1; have := h2.1; grind, ?_⟩
  have := Rat.mul_le_mul_of_nonneg_right ha.2 hw.co.1
  have := Rat.mul_le_mul_of_nonneg_right hb.2 hw.1
  grind
theorem In01.neg1 {q : Rat} (h : In01 q) : -1 ≤ q := by have := h.1; grind
theorem in01_zero : In01 0 := ⟨Rat.le_refl, by decide⟩
theorem in01_one : In01 1 := ⟨by decide, Rat.le_refl⟩
theorem unit_in {q : Rat} (h : In01 q) : 0 ≤ q.num ∧ q.num ≤ (q.den : Int) := by
  refine ⟨Rat.num_nonneg.mpr h.1, ?_⟩
  have := (Rat.le_iff q 1).mp h.2
  simpa using this
theorem in_unit {q : Rat} (h : 0 ≤ q.num ∧ q.num ≤ (q.den : Int)) : In01 q := by
  refine ⟨Rat.num_nonneg.mp h.1, (Rat.le_iff q 1).mpr ?_⟩
  simpa using h.2
theorem in01_mk {a : Int} {b : Nat} (hb : 0 < b) (h0 : 0 ≤ a) (h1 : a ≤ b) : In01 (mkRat a b) := by
  rw [Rat.mkRat_eq_div]
  have p := nat_pos hb
  have e1 : (((b : Nat) : Int) : Rat) = (b : Rat) := rfl
  have c0 : (0 : Rat) ≤ (a : Rat) := le_cast h0
  have c1 : (a : Rat) ≤ (b : Rat) := by rw [← e1]; exact le_cast h1
  have q : (a : Rat) / (b : Rat) * (b : Rat) = a := Rat.div_mul_cancel (nz_cast hb)
  generalize (a : Rat) / (b : Rat) = x at q ⊢
  refine ⟨?_, ?_⟩
  · refine Rat.le_of_mul_le_mul_right (c := (b : Rat)) ?_ p
    grind
  · refine Rat.le_of_mul_le_mul_right (c := (b : Rat)) ?_ p
    grind
/-! ### what runs keeps small -/
structure Good (D n : Nat) (W : Nat → Rat) : Prop where
  dp : 0 < D
  i : ∀ k, k < n → In01 (W k)
  d : ∀ k, k < n → IsD D (W k)
theorem state_good {D n : Nat} {W : Nat → Rat} (g : Good D n W) : ∀ t j, j ≤ n → (In01 (goR n W t j) ∧ IsD (D ^ t) (goR n W t j)) ∧ (In01 (goL n W t j) ∧ IsD (D ^ t) (goL n W t j))
  | 0, j, _ => by
    refine ⟨?_, in01_zero, IsD.zero _⟩
    show In01 (if j = 0 then 1 else 0) ∧ IsD _ (if j = 0 then 1 else 0)
    split
    · exact ⟨in01_one, IsD.one _⟩
    · exact ⟨in01_zero, IsD.zero _⟩
  | t + 1, j, hj => by
    have ih := state_good g t
    refine ⟨?_, ?_⟩
    · show In01 (nR W (goR n W t) (goL n W t) j) ∧ IsD (D ^ t * D) (nR W (goR n W t) (goL n W t) j)
      unfold nR
      split
      · exact ⟨in01_zero, IsD.zero _⟩
      · have a := (ih (j - 1) (by omega)).1
        have b := (ih j hj).2
        have w := g.i (j - 1) (by omega)
        have wd := g.d (j - 1) (by omega)
        exact ⟨a.1.mix b.1 w, (a.2.mul ((IsD.one D).sub wd)).add (b.2.mul wd)⟩
    · show In01 (nL n W (goR n W t) (goL n W t) j) ∧ IsD (D ^ t * D) (nL n W (goR n W t) (goL n W t) j)
      unfold nL
      split
      · rename_i hjn
        have a := (ih j hj).1
        have b := (ih (j + 1) (by omega)).2
        have w := g.i j hjn
        have wd := g.d j hjn
        have m := b.1.mix a.1 w
        refine ⟨?_, (a.2.mul wd).add (b.2.mul ((IsD.one D).sub wd))⟩
        rw [Rat.add_comm]
        exact m
      · exact ⟨in01_zero, IsD.zero _⟩
theorem run_ok {D n m : Nat} {W : Nat → Rat} (g : Good D n W) (hb : D ^ m < 2 ^ 4500) : RunOk n W m := fun t ht k hk => by
  obtain ⟨⟨a1, a2⟩, _⟩ := state_good g t k (by omega)
  obtain ⟨_, b1, b2⟩ := state_good g t (k + 1) (by omega)
  have w := g.i k hk
  have wd := g.d k hk
  have hp : 0 < D ^ (t + 1) := Nat.pow_pos g.dp
  have hl : D ^ (t + 1) < 2 ^ 4500 := Nat.lt_of_le_of_lt (Nat.pow_le_pow_right g.dp ht) hb
  have e : D ^ (t + 1) = D ^ t * D := Nat.pow_succ ..
  have up1 : ∀ q, IsD (D ^ t) q → IsD (D ^ (t + 1)) q := fun q h => by rw [e]; exact h.up D
  have up2 : IsD (D ^ (t + 1)) (W k) := by rw [e, Nat.mul_comm]; exact wd.up _
  have aw : IsD (D ^ (t + 1)) (goR n W t k * W k) := by rw [e]; exact a2.mul wd
  have bw : IsD (D ^ (t + 1)) (goL n W t (k + 1) * W k) := by rw [e]; exact b2.mul wd
  have av : IsD (D ^ (t + 1)) (goR n W t k * (1 - W k)) := by rw [e]; exact a2.mul ((IsD.one D).sub wd)
  have bv : IsD (D ^ (t + 1)) (goL n W t (k + 1) * (1 - W k)) := by rw [e]; exact b2.mul ((IsD.one D).sub wd)
  have go : ∀ q, IsD (D ^ (t + 1)) q → In01 q → Sm q := fun q h i => sm_of hp hl h i.neg1 i.2
  have ea : goR n W t k - goR n W t k * W k = goR n W t k * (1 - W k) := by grind
  have eb : goL n W t (k + 1) - goL n W t (k + 1) * W k = goL n W t (k + 1) * (1 - W k) := by grind
  exact ⟨go _ (up1 _ a2) a1, go _ up2 w, go _ (up1 _ b2) b1, go _ aw (a1.mul w), by rw [ea]; exact go _ av (a1.mul w.co), go _ bw (b1.mul w), by rw [eb]; exact go _ bv (b1.mul w.co),
    go _ ((IsD.one _).sub up2) w.co, go _ av (a1.mul w.co), go _ bv (b1.mul w.co)⟩
/-! ### the law's sides -/
theorem side_good (c : Int) : In01 (sideOf c) ∧ IsD 60 (sideOf c) := by
  unfold sideOf
  have m0 : 0 ≤ c % 6 := Int.emod_nonneg _ (by decide)
  have m1 : c % 6 < 6 := Int.emod_lt_of_pos _ (by decide)
  split
  · have a0 : 0 ≤ c / 30 % 2 := Int.emod_nonneg _ (by decide)
    have a1 : c / 30 % 2 < 2 := Int.emod_lt_of_pos _ (by decide)
    exact ⟨in01_mk (by decide) a0 (by omega), isD_mk (b := 1) (e := 60) (by decide)⟩
  · obtain ⟨n, en⟩ := Int.eq_ofNat_of_zero_le (show 0 ≤ 1 + c % 6 by omega)
    rw [en, Int.toNat_natCast]
    have a0 : 0 ≤ c / 30 % ((n : Int) + 1) := Int.emod_nonneg _ (by omega)
    have a1 : c / 30 % ((n : Int) + 1) < (n : Int) + 1 := Int.emod_lt_of_pos _ (by omega)
    refine ⟨in01_mk (by omega) a0 (by omega), ?_⟩
    have hn : n = 1 ∨ n = 2 ∨ n = 3 ∨ n = 4 ∨ n = 5 ∨ n = 6 := by omega
    rcases hn with h | h | h | h | h | h <;> subst h
    · exact isD_mk (b := 1) (e := 60) (by decide)
    · exact isD_mk (b := 2) (e := 30) (by decide)
    · exact isD_mk (b := 3) (e := 20) (by decide)
    · exact isD_mk (b := 4) (e := 15) (by decide)
    · exact isD_mk (b := 5) (e := 12) (by decide)
    · exact isD_mk (b := 6) (e := 10) (by decide)
theorem sides_len (ns : List Int) (first : Nat) {most : Int} (h : 0 < most) : 1 ≤ (sidesOf ns first most).length ∧ ((sidesOf ns first most).length : Int) ≤ most := by
  unfold sidesOf
  rw [List.length_map, List.length_range]
  have c0 : 0 ≤ cellAt ns first % most := Int.emod_nonneg _ (by omega)
  have c1 : cellAt ns first % most < most := Int.emod_lt_of_pos _ h
  omega
/-- a list of parts -/
structure GoodL (D : Nat) (ws : List Rat) : Prop where
  dp : 0 < D
  all : ∀ q ∈ ws, In01 q ∧ IsD D q
theorem GoodL.good {D : Nat} {ws : List Rat} (h : GoodL D ws) : Good D ws.length (at0 ws) := by
  have m : ∀ k, k < ws.length → at0 ws k ∈ ws := fun k hk => List.mem_of_getElem? (at0_get hk)
  exact ⟨h.dp, fun k hk => (h.all _ (m k hk)).1, fun k hk => (h.all _ (m k hk)).2⟩
theorem GoodL.unit {D : Nat} {ws : List Rat} (h : GoodL D ws) : Unit1 ws := fun q hq => unit_in (h.all q hq).1
theorem sides_good (ns : List Int) (first : Nat) (most : Int) : GoodL 60 (sidesOf ns first most) := by
  refine ⟨by decide, fun q hq => ?_⟩
  obtain ⟨k, _, rfl⟩ := List.mem_map.mp hq
  exact side_good _
theorem mom_range (c : Int) (n : Nat) : 0 ≤ momOf c n ∧ momOf c n ≤ 40 := by
  unfold momOf
  split
  · have a0 : 0 ≤ c / 52 % 41 := Int.emod_nonneg _ (by decide)
    have a1 : c / 52 % 41 < 41 := Int.emod_lt_of_pos _ (by decide)
    omega
  · have a0 : 0 ≤ c % 13 := Int.emod_nonneg _ (by decide)
    have a1 : c % 13 < 13 := Int.emod_lt_of_pos _ (by decide)
    omega
theorem pow60 {m : Nat} (h : m ≤ 40) : 60 ^ m < 2 ^ 4500 := by
  have h1 : 60 ^ m ≤ 60 ^ 40 := Nat.pow_le_pow_right (by decide) h
  have h2 : (60 : Nat) ^ 40 < 2 ^ 250 := by decide
  exact Nat.lt_of_lt_of_le (Nat.lt_of_le_of_lt h1 h2) (Nat.pow_le_pow_right (by decide) (by decide))
end Ef
namespace Ef
open PySem PySem.Spec PyProof.Rows L2
/-! ### the head's facts of fields and constants -/
section
variable {fa : List He.Fa} {fn : List He.DefD} {xb : PySem.W.Frag → Bool} {K : PySem.W.Frag} {h : Heap} {mg : Str → Option Value}
theorem konst_of {x : Str} {q : Rat} (hf : mg x = some (.ref (He.ga K x))) (hb : He.tupB K x [.int q.num, .int (q.den : Int)] = true) : KonstQ K mg x q := ⟨He.ga K x, hf, fun H => ⟨_, rfl, He.tupB_ok hb H⟩⟩
def fieldFa : List He.Fa := [.glo "Field", .cls "Field", .noat "Field" "parts", .meth "Field" "walls", .mkr "Field"]
theorem ftx_of (c : SaysX fa fn xb K) (X : K.In h) (G : h.Ns mainGlobals mg) (j : Nat) (h0 : fa[j]? = some (.glo "Field") := by rfl) (h1 : fa[j + 1]? = some (.cls "Field") := by rfl) (h2 : fa[j + 2]? = some (.noat "Field" "parts") := by rfl) : FTx K mg :=
  ⟨He.cls_ok (c.d.fact (j + 1) h1), He.noat_ok (c.d.fact (j + 2) h2), He.glo_ok X G (c.d.fact j h0)⟩
def xbK (K : PySem.W.Frag) : Bool := He.tupB K "NOUGHT" [.int 0, .int 1] && He.tupB K "ONE" [.int 1, .int 1]
end
end Ef
namespace Ef
/-! ### sums -/
def lsum : List Rat → Rat
  | [] => 0
  | q :: r => q + lsum r
theorem lsum_app : ∀ (l r : List Rat), lsum (l ++ r) = lsum l + lsum r
  | [], r => (Rat.zero_add _).symm
  | q :: l, r => by
    show q + lsum (l ++ r) = q + lsum l + lsum r
    rw [lsum_app l r]
    grind
theorem lsum_push (l : List Rat) (q : Rat) : lsum (l ++ [q]) = lsum l + q := by
  rw [lsum_app]
  show lsum l + (q + 0) = lsum l + q
  grind
def sumTo (f : Nat → Rat) (n : Nat) : Rat := lsum ((List.range n).map f)
theorem sumTo_succ (f : Nat → Rat) (n : Nat) : sumTo f (n + 1) = sumTo f n + f n := by
  unfold sumTo
  rw [List.range_succ, List.map_append]
  exact lsum_push _ _
theorem sumTo_zero (f : Nat → Rat) : sumTo f 0 = 0 := rfl
theorem step_part (n : Nat) (W r l : Nat → Rat) : ∀ i, i ≤ n → sumTo (nR W r l) (i + 1) + sumTo (nL n W r l) i = sumTo r i + sumTo l (i + 1) - l 0
  | 0, _ => by
    rw [sumTo_succ, sumTo_succ, sumTo_zero, sumTo_zero, sumTo_zero, sumTo_zero]
    have e : nR W r l 0 = 0 := rfl
    rw [e]
    grind
  | i + 1, h => by
    have ih := step_part n W r l i (by omega)
    rw [sumTo_succ _ (i + 1), sumTo_succ (nL n W r l) i, sumTo_succ r i, sumTo_succ l (i + 1)]
    have e1 : nR W r l (i + 1) = r i * (1 - W i) + l (i + 1) * W i := by
      unfold nR
      rw [if_neg (by omega), Nat.add_sub_cancel]
    have e2 : nL n W r l i = r i * W i + l (i + 1) * (1 - W i) := by
      unfold nL
      rw [if_pos (by omega)]
    rw [e1, e2]
    grind
theorem step_sum (n : Nat) (W r l : Nat → Rat) : sumTo (nR W r l) (n + 1) + sumTo (nL n W r l) (n + 1) = sumTo r (n + 1) + sumTo l (n + 1) - r n - l 0 := by
  have h := step_part n W r l n (Nat.le_refl _)
  have e : nL n W r l n = 0 := by
    unfold nL
    rw [if_neg (by omega)]
  rw [sumTo_succ (nL n W r l) n, e, sumTo_succ r n]
  grind
theorem all_one (n : Nat) (W : Nat → Rat) : ∀ m, sumTo (goR n W m) (n + 1) + sumTo (goL n W m) (n + 1) + lsum (ears n W m) + lsum (gone n W m) = 1
  | 0 => by
    have z : ∀ (f : Nat → Rat) (k : Nat), (∀ j, 0 < j → f j = 0) → sumTo f (k + 1) = f 0 := by
      intro f k hf
      induction k with
      | zero => rw [sumTo_succ, sumTo_zero]; grind
      | succ k ih => rw [sumTo_succ, ih, hf (k + 1) (by omega)]; grind
    rw [z (goR n W 0) n (fun j hj => by show (if j = 0 then (1 : Rat) else 0) = 0; rw [if_neg (by omega)]), z (goL n W 0) n (fun j _ => rfl)]
    show (1 : Rat) + 0 + 0 + 0 = 1
    grind
  | m + 1 => by
    have ih := all_one n W m
    rw [ears_succ, gone_succ, lsum_push, lsum_push]
    have h := step_sum n W (goR n W m) (goL n W m)
    have e1 : goR n W (m + 1) = nR W (goR n W m) (goL n W m) := rfl
    have e2 : goL n W (m + 1) = nL n W (goR n W m) (goL n W m) := rfl
    rw [e1, e2]
    grind
/-! ### where nothing goes -/
theorem parity (n : Nat) (W : Nat → Rat) : ∀ t j, ((j + t) % 2 = 1 → goR n W t j = 0) ∧ ((j + t) % 2 = 0 → goL n W t j = 0)
  | 0, j => by
    refine ⟨fun h => ?_, fun _ => rfl⟩
    show (if j = 0 then (1 : Rat) else 0) = 0
    rw [if_neg (by omega)]
  | t + 1, j => by
    refine ⟨fun h => ?_, fun h => ?_⟩
    · show nR W (goR n W t) (goL n W t) j = 0
      unfold nR
      split
      · rfl
      · rw [(parity n W t (j - 1)).1 (by omega), (parity n W t j).2 (by omega)]
        grind
    · show nL n W (goR n W t) (goL n W t) j = 0
      unfold nL
      split
      · rw [(parity n W t j).1 (by omega), (parity n W t (j + 1)).2 (by omega)]
        grind
      · rfl
theorem ears_take (n : Nat) (W : Nat → Rat) {k m : Nat} (h : k ≤ m) : (ears n W m).take k = ears n W k := by
  unfold ears
  rw [← List.map_take, List.take_range, Nat.min_eq_left h]
theorem gone_take (n : Nat) (W : Nat → Rat) {k m : Nat} (h : k ≤ m) : (gone n W m).take k = gone n W k := by
  unfold gone
  rw [← List.map_take, List.take_range, Nat.min_eq_left h]
theorem ears_get (n : Nat) (W : Nat → Rat) {k m : Nat} (h : k < m) : (ears n W m)[k]? = some (goL n W k 0) := by
  unfold ears
  rw [List.getElem?_map, List.getElem?_range h]
  rfl
theorem gone_get (n : Nat) (W : Nat → Rat) {k m : Nat} (h : k < m) : (gone n W m)[k]? = some (goR n W k n) := by
  unfold gone
  rw [List.getElem?_map, List.getElem?_range h]
  rfl
/-! ### parts of a sum that comes to one -/
theorem lsum_nonneg : ∀ {l : List Rat}, (∀ q ∈ l, 0 ≤ q) → 0 ≤ lsum l
  | [], _ => Rat.le_refl
  | q :: r, h => Rat.add_nonneg (h q List.mem_cons_self) (lsum_nonneg fun p hp => h p (List.mem_cons_of_mem _ hp))
theorem lsum_isD {D : Nat} : ∀ {l : List Rat}, (∀ q ∈ l, IsD D q) → IsD D (lsum l)
  | [], _ => IsD.zero D
  | q :: r, h => (h q List.mem_cons_self).add (lsum_isD fun p hp => h p (List.mem_cons_of_mem _ hp))
/-- a list of small strengths that come to one -/
structure OneL (D : Nat) (l : List Rat) : Prop where
  dp : 0 < D
  dl : D < 2 ^ 4500
  nn : ∀ q ∈ l, 0 ≤ q
  d : ∀ q ∈ l, IsD D q
  le : lsum l ≤ 1
theorem OneL.pre {D : Nat} {l r : List Rat} (h : OneL D (l ++ r)) : Sm (lsum l) := by
  have a : ∀ q ∈ l, 0 ≤ q := fun q hq => h.nn q (List.mem_append_left _ hq)
  have b : ∀ q ∈ r, 0 ≤ q := fun q hq => h.nn q (List.mem_append_right _ hq)
  have n1 := lsum_nonneg a
  have n2 := lsum_nonneg b
  have e := h.le
  rw [lsum_app] at e
  exact sm_of h.dp h.dl (lsum_isD fun q hq => h.d q (List.mem_append_left _ hq)) (by grind) (by grind)
theorem OneL.mem {D : Nat} {l : List Rat} (h : OneL D l) {q : Rat} (hq : q ∈ l) : Sm q := by
  obtain ⟨s, t, rfl⟩ := List.append_of_mem hq
  have n1 := lsum_nonneg (l := s) fun p hp => h.nn p (List.mem_append_left _ hp)
  have n2 := lsum_nonneg (l := t) fun p hp => h.nn p (List.mem_append_right _ (List.mem_cons_of_mem _ hp))
  have e := h.le
  rw [lsum_app] at e
  have e2 : lsum (q :: t) = q + lsum t := rfl
  rw [e2] at e
  have q0 := h.nn q hq
  exact sm_of h.dp h.dl (h.d q hq) (by grind) (by grind)
theorem mem_tab {n : Nat} {f : Nat → Rat} {q : Rat} (h : q ∈ tab n f) : ∃ j, j ≤ n ∧ f j = q := by
  obtain ⟨j, hj, e⟩ := List.mem_map.mp h
  exact ⟨j, by have := List.mem_range.mp hj; omega, e⟩
theorem lsum_tab (n : Nat) (f : Nat → Rat) : lsum (tab n f) = sumTo f (n + 1) := rfl
theorem up_pow {D t m : Nat} {q : Rat} (h : t ≤ m) (hq : IsD (D ^ t) q) : IsD (D ^ m) q := by
  have e : D ^ m = D ^ t * D ^ (m - t) := by rw [← Nat.pow_add, Nat.add_sub_cancel' h]
  rw [e]
  exact hq.up _
theorem run_one {D n m : Nat} {W : Nat → Rat} (g : Good D n W) (hb : D ^ m < 2 ^ 4500) :
    OneL (D ^ m) (tab n (goR n W m) ++ tab n (goL n W m) ++ ears n W m ++ gone n W m) := by
  have mem : ∀ q, q ∈ tab n (goR n W m) ++ tab n (goL n W m) ++ ears n W m ++ gone n W m → 0 ≤ q ∧ IsD (D ^ m) q := by
    intro q hq
    rcases List.mem_append.mp hq with hq | hq
    · rcases List.mem_append.mp hq with hq | hq
      · rcases List.mem_append.mp hq with hq | hq
        · obtain ⟨j, hj, rfl⟩ := mem_tab hq
          have := (state_good g m j hj).1
          exact ⟨this.1.1, this.2⟩
        · obtain ⟨j, hj, rfl⟩ := mem_tab hq
          have := (state_good g m j hj).2
          exact ⟨this.1.1, this.2⟩
      · obtain ⟨t, ht, rfl⟩ := List.mem_map.mp hq
        have ht := List.mem_range.mp ht
        have := (state_good g t 0 (Nat.zero_le _)).2
        exact ⟨this.1.1, up_pow (Nat.le_of_lt ht) this.2⟩
    · obtain ⟨t, ht, rfl⟩ := List.mem_map.mp hq
      have ht := List.mem_range.mp ht
      have := (state_good g t n (Nat.le_refl _)).1
      exact ⟨this.1.1, up_pow (Nat.le_of_lt ht) this.2⟩
  refine ⟨Nat.pow_pos g.dp, hb, fun q hq => (mem q hq).1, fun q hq => (mem q hq).2, ?_⟩
  rw [lsum_app, lsum_app, lsum_app, lsum_tab, lsum_tab, all_one]
  exact Rat.le_refl
theorem Rats.take {K : PySem.W.Frag} {H : L2.Hp} {xs : List L2.V} {qs : List Rat} (h : Rats K H xs qs) (j : Nat) : Rats K H (xs.take j) (qs.take j) := by
  refine ⟨by rw [List.length_take, List.length_take, h.1], fun i v q a b => ?_⟩
  rw [List.getElem?_take] at a b
  split at a
  · rw [if_pos (by assumption)] at b
    exact h.2 i v q a b
  · cases a
end Ef
namespace Ef
open PySem PySem.Spec PyProof.Rows L2 RT
/-! ### list(reversed(a list)) -/
section
variable {prog : Program} {w : World} {A : Around} {E : Value → Shared → Prop} {s : Shared} {R : Result → Shared → Prop}
/-- a fresh list at S takes what the reverse iterator at J gives -/
theorem grow_rev {J l S : Addr} {vs : Array Value} {c0 : Nat} {res : Value} (hh : A.handled = none) (hJ : s.heap.IsRevIter J l ((vs.size : Int) - 1)) (hl : s.heap.IsList l vs) (hlJ : l ≠ J) (hS : s.heap.get? S = some { cls := .type "list", data := .seq #[] c0 })
    (hSJ : S ≠ J) (hSl : S ≠ l) (hn : vs.size ≤ sizeLine)
    (hR : ∀ (g : Shared) (acc : Array Value) (c : Nat), Moved [S, J] (fun a b => b = a) s g → g.heap.get? S = some { cls := .type "list", dict := none, data := .seq acc c, slots := #[] } → ItemsOf (fun i v => vs[vs.size - 1 - i]? = some v) acc vs.size → R (.ok (.ret res)) g) :
    wpAny (model prog w) A.in1 (Builtin.List.listExtendWith (.ref S) (.ref J) res)
      (fun fin g => match fin with | .done f => R (.ok f) g | .again c' => c'.quiet = true ∧ codeAny (model prog w) A c' R g) (fun e g => R (.error e) g) s := by
  have V := (Walks.listRev (prog := prog) (w := w) (A := A.in1) hh J l hlJ vs).toS
  have hout : S ∉ [J, l] := by simp [hSJ, hSl]
  have tJ : s.TypeIs (.ref J) "list_reverseiterator" := hJ.typeIs
  have dif : Builtin.List.listSameRef (.ref S) (.ref J) = false := by simp [Builtin.List.listSameRef, hSJ]
  unfold Builtin.List.listExtendWith
  refine wpAny_bind (wpAny_typeOf tJ ?_)
  rw [if_neg (by rw [dif]; decide)]
  refine wpAny_bind (wpAny_pyIter_revIter hJ (wpAny_bind (wpAny_holding ?_)))
  unfold Builtin.List.listLengthHint
  refine wpAny_bind (wpAny_specialOf tJ nolen_lri ?_)
  show wpAny _ A.in1 (specialOf (Value.ref J) (Str.ofString "__length_hint__") >>= _) _ _ _
  refine wpAny_bind (wpAny_specialOf tJ hint_lri ?_)
  generalize hx : ("list_reverseiterator.__length_hint__" : String) = y
  wp_delta
  rw [show splitId y = some ("list_reverseiterator", "__length_hint__") from by subst hx; decide +kernel]
  subst hx
  refine wpAny_bind (wpAny_isInstance (b := true) tJ (by rw [isSubtype_type]; kernel_rfl) (wpAny_pure ?_))
  rw [if_neg (by decide)]
  have ez : ((vs.size : Nat) : Int) - 1 - ((0 : Nat) : Int) = (vs.size : Int) - 1 := by omega
  refine wpAny_pure ⟨plainId_quiet F.plain_extend_loop _, codeAny_extend_loopS V hn S hout res vs.size 0 s #[] c0 rfl (Nat.zero_le _) ⟨Nat.zero_le _, by rw [ez]; exact hJ, hl⟩ hS (ItemsOf.nil _) fun g acc c hm hg ha => ?_⟩
  exact hR g acc c hm hg ha
/-- list(J), J such an iterator -/
theorem call_list_rev {J l : Addr} {vs : Array Value} {Q : Value → Shared → Prop} (hh : A.handled = none) (hJ : s.heap.IsRevIter J l ((vs.size : Int) - 1)) (hl : s.heap.IsList l vs) (hlJ : l ≠ J) (hn : vs.size ≤ sizeLine)
    (hQ : ∀ (g : Shared) (acc : Array Value) (c : Nat), (∀ b o, b ≠ J → s.heap.get? b = some o → g.heap.get? b = some o) → g.gens = s.gens → g.drawn = s.drawn → g.os = s.os →
      g.heap.get? s.heap.objs.size = some { cls := .type "list", dict := none, data := .seq acc c, slots := #[] } → ItemsOf (fun i v => vs[vs.size - 1 - i]? = some v) acc vs.size → Q (.ref s.heap.objs.size) g) :
    wpAny (model prog w) A (call (.type "list") [.ref J]) Q E s := by
  obtain ⟨oJ, hoJ, _⟩ := id hJ
  obtain ⟨ol, hol, _⟩ := id hl
  have fJ : s.heap.objs.size ≠ J := Nat.ne_of_gt (Heap.lt_size hoJ)
  have fl : s.heap.objs.size ≠ l := Nat.ne_of_gt (Heap.lt_size hol)
  have h2 : A.in1.handled = none := hh
  refine callType_codes (Q₁ := fun u g => u = .ref s.heap.objs.size ∧ g = { s with heap := s.heap.push { cls := .type "list", data := .seq #[] } }) F.called_list (F.typeCall_list_1 _) F.entry_list_init (code_list_new _ ⟨rfl, rfl⟩) fun u g hg => ?_
  obtain ⟨rfl, rfl⟩ := hg
  have e0 : (s.heap.push { cls := .type "list", data := .seq #[] }).get? s.heap.objs.size = some { cls := .type "list", data := .seq #[] } := Heap.get?_push_size _ rfl
  refine ⟨⟨_, e0, rfl⟩, F.args_list_init_2 _ _, ?_⟩
  show wpAny _ A.in1.in1 (do let old ← Builtin.List.listItems (.ref s.heap.objs.size); Builtin.List.listUpdate (.ref s.heap.objs.size) (fun _ => #[]); letGo old.toList.reverse; Builtin.List.listExtendWith (.ref s.heap.objs.size) (.ref J) .none) _ _ _
  refine wpAny_bind ?_
  unfold Builtin.List.listItems
  refine wpAny_bind (wpAny_seqItems e0 rfl (wpAny_pure ?_))
  show wpAny _ A.in1.in1 (updateSeq s.heap.objs.size (fun _ => #[]) >>= fun _ => letGo (#[] : Array Value).toList.reverse >>= fun _ => Builtin.List.listExtendWith (.ref s.heap.objs.size) (.ref J) .none) _ _ _
  refine wpAny_bind (wpAny_updateSeq e0 rfl ?_)
  have e1 := Heap.get?_update_self (Obj.mapSeq (fun _ => (#[] : Array Value))) e0 rfl
  have kp : ∀ b o, b ≠ s.heap.objs.size → (s.heap.push { cls := .type "list", data := .seq #[] }).get? b = some o → ((s.heap.push { cls := .type "list", data := .seq #[] }).update s.heap.objs.size (Obj.mapSeq (fun _ => (#[] : Array Value)))).get? b = some o :=
    fun b o hb q => (Heap.get?_update_other _ _ (Ne.symm hb)).trans q
  refine wpAny_bind (wpAny_letGo ?_)
  refine grow_rev (s := { s with heap := (s.heap.push { cls := .type "list", data := .seq #[] }).update s.heap.objs.size (Obj.mapSeq (fun _ => (#[] : Array Value))) }) h2 (hJ.at fun o q => kp J o fJ.symm (Heap.get?_push_of_some _ q)) ?_ hlJ e1 fJ fl hn fun g acc c hm hg ha => ?_
  · obtain ⟨o, ho, hc, n, hd⟩ := hl
    exact ⟨o, kp l o fl.symm (Heap.get?_push_of_some _ ho), hc, n, hd⟩
  · refine ⟨rfl, hQ g acc c (fun b o hb q => ?_) hm.gens hm.drawn hm.os hg ha⟩
    have hbs : b ≠ s.heap.objs.size := Nat.ne_of_lt (Heap.lt_size q)
    exact hm.heap b o (by simp [hbs, hb]) (kp b o hbs (Heap.get?_push_of_some _ q))
end
def tListRev (K : PySem.W.Frag) (te : TE) : TE := fun σ H Q => te σ H fun v H1 => ∃ (a : Addr) (xs : List V), v = .ref a ∧ SqL K H1 a xs ∧ ∀ q, H1 q = none → Q (.ref q) (upd H1 q (.lst xs.reverse))
section
variable {X : Cx}
theorem pe_listRev {e : Expr} {te : TE} {n1 n2 c1 c2 : Pos} (hc : X.calm = true) (hg : Gl X "list") (hm : X.mg "list" = none) (hg2 : Gl X "reversed") (hm2 : X.mg "reversed" = none) (he : PE X e te)
    (ha : starEach [e] X.env = (false, eval e X.env) :: starEach [] X.env := by rfl)
    (hb : starEach [.Call (.Name "reversed" n2) [e] [] c2] X.env = (false, eval (.Call (.Name "reversed" n2) [e] [] c2) X.env) :: starEach [] X.env := by rfl) :
    PE X (.Call (.Name "list" n1) [.Call (.Name "reversed" n2) [e] [] c2] [] c1) (tListRev X.K te) := by
  refine ⟨fun pins s σ H Q I h => ?_⟩
  refine Call_ (ld_blt I hg hm (by decide +kernel : bootBuiltins "list" = some (.type "list")) (PyProof.Rows.callWith_type1 (args_cons (Call_ (ld_blt I hg2 hm2 PyProof.Rows.boot_reversed (PyProof.Rows.callWith_type1 (args_cons (thn (he.run pins s σ H _ I h) fun u s1 ⟨v, H1, I1, r1, q1⟩ => args_nil ?_) ha) ha rfl))) hb) hb rfl))
  obtain ⟨l, xs, rfl, hq, q⟩ := q1
  obtain rfl : u = Value.ref l := r1
  obtain ⟨its, rv, pl, hz⟩ := I1.list hq
  refine call_reversed_list pl.isList (args_nil ?_)
  have up : ∀ b o, s1.heap.get? b = some o → (s1.heap.push (revObj l ((its.toArray.size : Int) - 1))).get? b = some o := fun b o z => Heap.get?_push_of_some _ z
  have I2 : Inv X pins σ H1 { s1 with heap := s1.heap.push (revObj l ((its.toArray.size : Int) - 1)) } := I1.kept (t' := s1.toks) up
  have fp : FpOk X pins H1 s1.heap.objs.size := I1.fpOk (H' := H1) (b := s1.heap.objs.size) (Nat.le_refl _) (I1.hok.fresh (Nat.le_refl _))
  have hl := pl.isList
  obtain ⟨ol, hol, _⟩ := id hl
  have hlJ : l ≠ s1.heap.objs.size := Nat.ne_of_lt (Heap.lt_size hol)
  have hn : its.toArray.size ≤ sizeLine := by rw [List.size_toArray, ← rv.length]; exact hz
  refine call_list_rev (s := { s1 with heap := s1.heap.push (revObj l ((its.toArray.size : Int) - 1)) }) (I1.ok.hd hc) ⟨_, Heap.get?_push_size _ rfl, rfl, rfl⟩ (hl.push _) hlJ hn fun g acc c hk h1 h2 h3 hS hi => ?_
  obtain ⟨gh, gg, gd, gt, go⟩ := g
  obtain rfl : gg = s1.gens := h1
  obtain rfl : gd = s1.drawn := h2
  obtain rfl : go = s1.os := h3
  refine ⟨.ref _, upd H1 _ (.lst xs.reverse), I2.turnedNew (t' := gt) (ch := [s1.heap.objs.size]) (fun b o z y => hk b o (fun e => z (by rw [e]; exact List.mem_cons_self)) y) (fun b z => by rw [List.mem_singleton.mp z]; exact fp) (Nat.le_refl _) (show ObjOk X.prog X.w _ _ _ (.lst xs.reverse) from ⟨by rw [List.length_reverse]; exact hz, acc.toList, c, vals_rev rv hi, ?_⟩), rfl, q _ (I2.hok.fresh (Nat.le_refl _))⟩
  rw [Array.toArray_toList]
  exact hS
end
theorem Rats.rev {K : PySem.W.Frag} {H : Hp} {xs : List V} {qs : List Rat} (h : Rats K H xs qs) : Rats K H xs.reverse qs.reverse := by
  refine ⟨by rw [List.length_reverse, List.length_reverse, h.1], fun i v q a b => ?_⟩
  have hi : i < xs.length := by
    have := (List.getElem?_eq_some_iff.mp a).1
    rwa [List.length_reverse] at this
  rw [List.getElem?_reverse hi] at a
  rw [List.getElem?_reverse (by rw [← h.1]; exact hi), ← h.1] at b
  exact h.2 _ v q a b
/-! ### fields turned and joined -/
def spTurned (K : PySem.W.Frag) : Sp := fun vs H Q _ => ∃ (f l : Addr) (ws : List Rat), vs = [.ref f] ∧ FieldAt K H f l ws ∧ 1 ≤ ws.length ∧ ws.length ≤ 8 ∧ Unit1 ws ∧
  ∀ (p m : Addr) (H' : Hp), H p = none → Same H H' → FieldAt K H' p m ws.reverse → Q (.ref p) H'
def spJoined (K : PySem.W.Frag) : Sp := fun vs H Q _ => ∃ (f l g m : Addr) (ws us : List Rat), vs = [.ref f, .ref g] ∧ FieldAt K H f l ws ∧ FieldAt K H g m us ∧ 1 ≤ ws.length ∧ ws.length + us.length ≤ 8 ∧ Unit1 ws ∧ Unit1 us ∧
  ∀ (p r : Addr) (H' : Hp), H p = none → Same H H' → FieldAt K H' p r (ws ++ us) → Q (.ref p) H'
theorem Unit1.app {ws us : List Rat} (h : Unit1 ws) (g : Unit1 us) : Unit1 (ws ++ us) := fun q hq => (List.mem_append.mp hq).elim (h q) (g q)
theorem Unit1.rev {ws : List Rat} (h : Unit1 ws) : Unit1 ws.reverse := fun q hq => h q (List.mem_reverse.mp hq)
end Ef
namespace Ef
open PySem PySem.Spec PyProof.Rows L2
/-! ### refusals: raised, caught, their kinds asked -/
abbrev CXN : Program → World → CXT := fun P w => L2N.CX P w
/-- isinstance of the exception at a, which the context bears -/
theorem call_isP {X : Cx} {a D : Addr} {oe : Obj} (hp : (a, oe) ∈ X.pn) (C : ExcC X.K D) (hz : Zc (.ref D) none oe) (hf : ∃ vs, oe.data = .fields vs) : CallR X (.builtin "isinstance") (rIsE X.K D a) := by
  intro pins s σ H xs us Q I r ⟨c, cv, b, exs, hcv, ek, q⟩
  subst exs
  match us, r with
  | [_, _], .cons e1 (.cons e2 .nil) =>
    obtain rfl := e1
    obtain rfl := hcv _ e2
    have there := (I.pin (a, oe) (List.mem_append_left _ hp)).1
    have J : PySem.W.InstAt s.heap a oe D none := by
      revert there hz hf
      cases oe with
      | mk k1 k2 k3 k4 =>
        rintro ⟨g1, g2⟩ ⟨ws, g3⟩ there
        have g1 : k1 = _ := g1
        have g2 : k2 = _ := g2
        have g3 : k3 = _ := g3
        subst g1 g2 g3
        exact ⟨there, rfl, rfl, trivial⟩
    exact PySem.W.kia_one (PySem.W.handS_kitx_exc C.hg C.hk C.hs C.hd C.ha C.hn C.ht C.hm) I.kIn J ek (fun z => nomatch z) fun tk => ⟨.bl b, H, I.kept (t' := tk) (fun _ _ same => same), rfl, q⟩
/-- a def that is handed the exception that is handled, of the class at D -/
structure FnE (P : Program) (w : World) (K : PySem.W.Frag) (mg : Str → Option Value) (base : Heap) (D : Addr) (k : Nat) (f : Addr) (fd : FuncData) (ps : List Str) (sp : Addr → Sp) : Prop where
  len : ∀ a vs H Q E, sp a vs H Q E → vs.length = ps.length
  run : ∀ (A : Around) (outer : List Env) (s : Shared) (H : Hp) (args : Args) (us : List Value) (vs : List V) (Q : VK) (E : XK) (p : Addr × Obj), L2H.RoomH k A → L2H.Hot1 A p → Zc (.ref D) none p.2 → L2H.PinOk outer H s p → Env0 P w K mg base A outer s H →
    BindsTo s fd args (ps.zip us) → Vals vs us → sp p.1 vs H Q E → codeAny (model P w) A (.call (.ref f) args) (CR CX0 outer P w H s Q E) s
theorem fne_of {P : Program} {w : World} {K : PySem.W.Frag} {mg : Str → Option Value} {base : Heap} {D : Addr} {k : Nat} {f : Addr} {fd : FuncData} {x : Str} {st : Stmt} {N ps : List Str} {sp : Addr → Sp} (F : FnP K x x st f fd) (S : FnScope N ps (defScope st))
    (len : ∀ a vs H Q E, sp a vs H Q E → vs.length = ps.length)
    (body : ∀ (cdv : Value) (A : Around) (outer : List Env) (s : Shared) (H : Hp) (vs : List V) (Q : VK) (E : XK) (p : Addr × Obj), L2H.Hot1 A p → Zc (.ref D) none p.2 → L2H.RoomH k (A.deeper (envOfC x (defScope st) s.heap.objs.size f cdv)) → sp p.1 vs H Q E →
      ∃ t, PSs (L2H.cxH CX0 P w K mg base N x (defScope st) f cdv A outer s H E p) (defBody st) t ∧ t { nx := fun _ H' => Q .non H', rt := Q } (L2.start N vs) H) :
    FnE P w K mg base D (k + 1) f fd ps sp := by
  obtain ⟨oc, od, dV, kV, doc, pm, an, cdv, ct, osl, efd, lk, hcd, hd, hk⟩ := F.ex
  subst efd
  refine ⟨len, fun A outer s H args us vs Q E p room hot cls pin e0 hb rv hsp => ?_⟩
  have arity := len _ _ _ _ _ hsp
  have inK : K.In s.heap := e0.mod.kin.keeps (fun b o y => (e0.bs b o y).1)
  have nolim : s.heap.NoLimit := e0.mod.nolimit.keeps (fun b o y => (e0.bs b o y).1)
  have own : ∀ y ∈ ps.zip us, (defScope st).names.lookup y.1 = some .local ∨ ((defScope st).names.lookup y.1 = some .cell ∧ ((cellsFrom (s.heap.objs.size + 1) (defScope st).names []).lookup y.1).isSome = true) := by
    rintro ⟨nm, u⟩ hy
    cases S.par nm (List.of_mem_zip hy).1 with
    | inl q => exact Or.inl q
    | inr q => exact Or.inr ⟨q, PySem.W.cellsFrom_some _ _ _ (Or.inl q)⟩
  refine codeAny_call_function room.depth (inK _ _ lk) rfl S.co S.gen rfl (PySem.W.codeRec_of inK hcd) (hb _ _ _ _ ?_)
  refine wpAny_newFunctionEnv_cells S.kind own fun env he s1 started => ?_
  subst he
  refine ⟨nolim.keeps started.toInCall.keep, codeAny_func ?_⟩
  obtain ⟨t, walk, ask⟩ := body cdv A outer s H vs Q E p hot cls (room.deeper _) hsp
  have I : Inv (L2H.cxH CX0 P w K mg base N x (defScope st) f cdv A outer s H E p) [] (L2.start N vs) H s1 := L2H.inv_startH S pin e0 arity rv started
  refine wpAny_mono (walk.run [] s1 (L2.start N vs) H _ I ask) ?_ (fun _ _ out => out)
  intro fl s2 ended
  have back : ∀ {σ2 : L2.St} {H2 : Hp} {v : V} {u : Value}, Inv (L2H.cxH CX0 P w K mg base N x (defScope st) f cdv A outer s H E p) [] σ2 H2 s2 → RelV v u → Q v H2 → CE outer P w H s Q u s2 := by
    intro σ2 H2 v u J r q
    exact ⟨v, H2, J.os, J.bare, J.base, J.hok, r, q⟩
  cases fl with
  | next =>
    obtain ⟨σ2, H2, J, q⟩ := ended
    exact back (v := V.non) (u := Value.none) J rfl q
  | ret u =>
    obtain ⟨v, σ2, H2, J, r, q⟩ := ended
    exact back J r q
  | brk =>
    obtain ⟨_, _, _, q⟩ := ended
    exact q.elim
  | cont =>
    obtain ⟨_, _, _, q⟩ := ended
    exact q.elim
section
variable {X : Cx} {k : Nat} {f D a : Addr} {fd : FuncData} {oe : Obj} {ps : List Str} {sp : Addr → Sp} {x : Str} {q pos : Pos} {e : Expr} {es : List Expr} {t : TA}
/-- its call within the suite -/
theorem pe_callE (F : FnE X.prog X.w X.K X.mg X.base D k f fd ps sp) (hr : L2H.RoomH k X.A) (hh : X.A.handled = some (.ref a)) (hp : (a, oe) ∈ X.pn) (hz : L2N.Zn (.ref D) none oe) (hf : ∃ vs, oe.data = .fields vs)
    (hg : Gl X x) (hm : X.mg x = some (.ref f)) (hk : PySem.W.keepIn X.K (.ref f) = true) (hb : Binds X.K fd ps []) (ha : PA X (e :: es) t) (hdb : (x == ("__debug__" : Str)) = false := by decide)
    (he : starEach (e :: es) X.env = (false, eval e X.env) :: starEach es X.env := by rfl) (hpl : (backTo pos (starEach es X.env)).any (·.1) = false := by rfl) :
    PE X (.Call (.Name x q) (e :: es) [] pos) (fun σ H Q => t σ H fun vs H1 => sp a vs H1 Q E0) := by
  constructor
  intro pins s σ H Q I h
  refine wpAny_Call_Name_kw (ld_glob I hg hm ?_ hdb)
  refine PySem.W.callWith_K (h₀ := X.base) I.ok.mod.kin hk (thn (ha.run pos pins s σ H _ I h) ?_) he hpl
  intro us s1 got
  obtain ⟨vs, H1, I1, r, q1⟩ := got
  refine ⟨I1.kIn, ?_⟩
  obtain ⟨ws, ew⟩ := hf
  have hot : L2H.Hot1 X.A (a, oe) := ⟨hh, ws, ew, hz.2.2 ws ew⟩
  have arity : us.length = ps.length := (r.length.symm).trans (F.len _ _ _ _ _ q1)
  have bs := hb s1 us I1.kIn ((congrArg List.length (List.append_nil us)).trans arity)
  rw [List.append_nil] at bs
  have P1 := I1.pin (a, oe) (List.mem_append_left _ hp)
  have pinned : L2H.PinOk X.stack H1 s1 (a, oe) := by
    refine ⟨P1.1, P1.2.1, fun hm => ?_, P1.2.2.2.2⟩
    cases List.mem_cons.mp (I1.stkSub a hm) with
    | inl y => exact P1.2.2.1 y
    | inr y => exact P1.2.2.2.1 y
  refine wpAny_call (codeAny_mono (F.run X.A X.stack s1 H1 ⟨us, []⟩ us vs Q E0 (a, oe) hr hot hz.zc pinned I1.env0 bs r q1) ?_)
  intro rr s2 hq
  match rr, hq with
  | .ok (.ret u), hq => exact I1.after hq
  | .ok .next, hq => exact hq.elim
  | .ok .brk, hq => exact hq.elim
  | .ok .cont, hq => exact hq.elim
  | .error u, hq => exact pass0 pins σ H1 s1 u s2 I1 hq
end
/-! ### the kinds -/
/-- of which of the refusals' classes the class at D is -/
structure KindAt (K : PySem.W.Frag) (D : Addr) (j : Nat) : Prop where
  ec : ExcC K D
  k0 : PySem.W.kitOne K (.ref D) (.ref (He.ga K "NoField")) = some (j == 0)
  k1 : PySem.W.kitOne K (.ref D) (.ref (He.ga K "NoMoment")) = some (j == 1)
  k2 : PySem.W.kitOne K (.ref D) (.ref (He.ga K "NoRecord")) = some (j == 2)
  k3 : PySem.W.kitOne K (.ref D) (.ref (He.ga K "TooMany")) = some (j == 3)
  k4 : PySem.W.kitOne K (.ref D) (.ref (He.ga K "BadText")) = some (j == 4)
  kv : PySem.W.kitOne K (.ref D) (.type "ValueError") = some true
def kindB (K : PySem.W.Frag) (D : Addr) (j : Nat) : Bool :=
  He.eqO (PySem.W.findIn K (.ref D) "__getattribute__") (some (some (.builtin "BaseException.__getattribute__"))) && He.eqO (PySem.W.findIn K (.ref D) "__getattr__") (some none) && decide (PySem.W.subIn K (.ref D) (.type "BaseException") = some true) && PySem.W.hasDictIn K D &&
  He.eqO (PySem.W.findIn K (.ref D) "__class__") (some (some (.builtin "object.__class__"))) && He.eqO (PySem.W.specialIn K (.builtin "object.__class__") "__get__") (some (some (.builtin "getset_descriptor.__get__"))) && decide (PySem.W.takesIn K (.builtin "object.__class__") = some true) && decide (PySem.W.mroIn K D (.type "object") = some true) &&
  decide (PySem.W.kitOne K (.ref D) (.ref (He.ga K "NoField")) = some (j == 0)) && decide (PySem.W.kitOne K (.ref D) (.ref (He.ga K "NoMoment")) = some (j == 1)) && decide (PySem.W.kitOne K (.ref D) (.ref (He.ga K "NoRecord")) = some (j == 2)) &&
  decide (PySem.W.kitOne K (.ref D) (.ref (He.ga K "TooMany")) = some (j == 3)) && decide (PySem.W.kitOne K (.ref D) (.ref (He.ga K "BadText")) = some (j == 4)) && decide (PySem.W.kitOne K (.ref D) (.type "ValueError") = some true)
theorem kind_ok {K : PySem.W.Frag} {D : Addr} {j : Nat} (h : kindB K D j = true) : KindAt K D j := by
  unfold kindB at h
  simp only [Bool.and_eq_true] at h
  obtain ⟨⟨⟨⟨⟨⟨⟨⟨⟨⟨⟨⟨⟨a1, a2⟩, a3⟩, a4⟩, a5⟩, a6⟩, a7⟩, a8⟩, b0⟩, b1⟩, b2⟩, b3⟩, b4⟩, bv⟩ := h
  exact ⟨⟨He.eqO_ok a1, He.eqO_ok a2, of_decide_eq_true a3, a4, He.eqO_ok a5, He.eqO_ok a6, of_decide_eq_true a7, of_decide_eq_true a8⟩, of_decide_eq_true b0, of_decide_eq_true b1, of_decide_eq_true b2, of_decide_eq_true b3, of_decide_eq_true b4, of_decide_eq_true bv⟩
/-- the globals that name the classes -/
structure ExG (K : PySem.W.Frag) (mg : Str → Option Value) : Prop where
  g0 : mg "NoField" = some (.ref (He.ga K "NoField"))
  g1 : mg "NoMoment" = some (.ref (He.ga K "NoMoment"))
  g2 : mg "NoRecord" = some (.ref (He.ga K "NoRecord"))
  g3 : mg "TooMany" = some (.ref (He.ga K "TooMany"))
  g4 : mg "BadText" = some (.ref (He.ga K "BadText"))
  gv : mg "ValueError" = none
def kindL (j : Nat) : List Bool := [j == 0, j == 1, j == 2, j == 3, j == 4, true]
def spKind (K : PySem.W.Frag) (j : Nat) : Addr → Sp := fun a vs H Q _ => vs = [.ref a] ∧ ∀ l H', Same H H' → H l = none → H' l = some (.lst ((kindL j).map V.bl)) → Q (.ref l) H'
def spOneOf : Sp := fun vs H Q _ => ∃ j : Nat, vs = [.int (j : Int)] ∧ ∀ l H', Same H H' → H l = none → H' l = some (.lst ((kindL j).map V.bl)) → Q (.ref l) H'
/-- a class of refusals that the program raises -/
structure ErrX (K : PySem.W.Frag) (mg : Str → Option Value) (x : Str) : Prop where
  g : mg x = some (.ref (He.ga K x))
  xc : PySem.W.excIn K (He.ga K x) He.veBase "ValueError.__new__" = true
  k : PySem.W.keepIn K (.ref (He.ga K x)) = true
  b : PySem.W.subIn K (.ref (He.ga K x)) (.type "BaseException") = some true
  t : PySem.W.typeIn K (.ref (He.ga K x)) = some (.type "type")
/-- data of truth values -/
def dBools (bs : List Bool) : PyData := .list (bs.map PyData.bool)
theorem takes_noneN {X : Cx} : L2N.Takes X (fun _ _ _ _ => False) := by
  rintro _ _ ⟨_, _, _, _, _, _, _, _, _, _, _, _, _, _, _, _, z⟩
  exact z.elim
section
variable {X : Cx} {k j : Nat} {x : Str} {ps : List Str} {sp : Sp} {e : Expr} {es : List Expr} {t : TA} {p pos : Pos} {W : WX} {E : XK}
/-- a call of a def that may refuse: out of this def -/
theorem pe_gdX (G : Gd (CXN X.prog X.w) X.prog X.w X.K X.mg X.base j x ps sp) (hr : Room k X.A) (tk : L2N.Takes X W) (hW : ∀ cls d σ H, E cls d H → W cls d σ H) (ha : PA X (e :: es) t) (hjk : j ≤ k := by decide) (hg : Gl X x := by rfl) (hdb : (x == ("__debug__" : Str)) = false := by decide)
    (he : starEach (e :: es) X.env = (false, eval e X.env) :: starEach es X.env := by rfl) (hpl : (backTo pos (starEach es X.env)).any (·.1) = false := by rfl) :
    PE X (.Call (.Name x p) (e :: es) [] pos) (tCall sp [] E t) := by
  obtain ⟨f, fd, F, g, kp, b⟩ := G
  exact pe_call F (hr.mono hjk) hg g kp b .nil (L2N.passes_call tk hW) ha hdb he hpl
/-- .. in a try -/
theorem pe_gdS (G : Gd (CXN X.prog X.w) X.prog X.w X.K X.mg X.base j x ps sp) (hr : Room k X.A) (tk : L2N.Takes X W) (ha : PA X (e :: es) t) (hjk : j ≤ k := by decide) (hg : Gl X x := by rfl) (hdb : (x == ("__debug__" : Str)) = false := by decide)
    (he : starEach (e :: es) X.env = (false, eval e X.env) :: starEach es X.env := by rfl) (hpl : (backTo pos (starEach es X.env)).any (·.1) = false := by rfl) :
    PE X (.Call (.Name x p) (e :: es) [] pos) (tCallS sp (WE W) t) := by
  obtain ⟨f, fd, F, g, kp, b⟩ := G
  exact pe_callS F (hr.mono hjk) hg g kp b (fun σ => L2N.passAt tk σ) ha hdb he hpl
end
/-- the law's _law_kind, for each class of refusals -/
def GdKind (P : Program) (w : World) (K : PySem.W.Frag) (mg : Str → Option Value) (base : Heap) : Prop :=
  ∃ f fd, (∀ D j, KindAt K D j → FnE P w K mg base D 1 f fd ["e"] (spKind K j)) ∧ mg "_law_kind" = some (.ref f) ∧ PySem.W.keepIn K (.ref f) = true ∧ Binds K fd ["e"] []
def tKind (K : PySem.W.Frag) (cls : Value) (d : Option Addr) (a : Addr) (t : TA) : TE := fun σ H Q => ∃ D j, cls = .ref D ∧ d = none ∧ KindAt K D j ∧ t σ H fun vs H1 => spKind K j a vs H1 Q E0
section
variable {X : Cx} {k : Nat} {a : Addr} {oe : Obj} {pn : List (Addr × Obj)} {cls : Value} {d : Option Addr} {e : Expr} {t : TA} {q pos : Pos}
theorem pe_kind (G : GdKind X.prog X.w X.K X.mg X.base) (hr : Room k X.A) (hz : L2N.Zn cls d oe) (hf : ∃ vs, oe.data = .fields vs) (ha : PA (X.suite a ((a, oe) :: pn)) [e] t) (hk : 1 ≤ k := by decide) (hg : Gl X "_law_kind" := by rfl)
    (he : starEach [e] X.env = (false, eval e X.env) :: starEach [] X.env := by rfl) :
    PE (X.suite a ((a, oe) :: pn)) (.Call (.Name "_law_kind" q) [e] [] pos) (tKind X.K cls d a t) := by
  constructor
  intro pins s σ H Q I ⟨D, j, e1, e2, kd, h⟩
  subst e1 e2
  obtain ⟨f, fd, F, g, kp, b⟩ := G
  have r1 := (hr.mono hk)
  have room : L2H.RoomH 1 (X.suite a ((a, oe) :: pn)).A := ⟨r1.dp, r1.un⟩
  exact (pe_callE (X := X.suite a ((a, oe) :: pn)) (F D j kd) room rfl List.mem_cons_self hz hf hg g kp b ha (by decide) he rfl).run pins s σ H Q I h
end
/-! ### promises -/
def spRunX (K : PySem.W.Frag) : Sp := fun vs H _ E => ∃ (f : Addr) (z : Int), vs = [.ref f, .int z] ∧ (z < 0 ∨ 40 < z) ∧ E (.ref (He.ga K "NoMoment")) none H
def spRefused (K : PySem.W.Frag) : Sp := fun vs H Q _ => ∃ (c : Int) (f : Addr) (z : Int), vs = [.int c, .ref f, .int z] ∧ (c = 0 ∨ c = 1 ∨ c = 2) ∧ (z < 0 ∨ 40 < z) ∧ ∀ H', Same H H' → Q (.bl true) H'
theorem bools_dp {K : PySem.W.Frag} {H : Hp} : ∀ bs : List Bool, DpAll K H (bs.map V.bl) (bs.map PyData.bool)
  | [] => .nil
  | b :: bs => .cons (.bl b) (bools_dp bs)
theorem bools_at {K : PySem.W.Frag} {H : Hp} {l : Addr} {bs : List Bool} (h : H l = some (.lst (bs.map V.bl))) : Dp K H (.ref l) (dBools bs) := .lst (SqL.of h) (bools_dp bs)
/-! ### an object made in a try -/
def tMakeS (C : Addr) (sp : Sp) (W : WX) (t : TA) : TE := fun σ H Q => t σ H fun vs H1 => ∀ x dx, H1 x = none → H1 dx = none → dx ≠ x → sp (.ref x :: vs) (upd (upd H1 dx (.own x)) x (.ins C dx [])) (fun v H2 => v = .non ∧ Q (.ref x) H2) (WE W σ)
section
variable {X : Cx} {k : Nat} {f C : Addr} {fd : FuncData} {ps : List Str} {sp : Sp} {x : Str} {e : Expr} {es : List Expr} {t : TA} {p pos : Pos} {W : WX}
theorem pe_makeS (M : Mk X.K C f) (F : FnOk X.prog X.w X.K X.mg X.base (CXN X.prog X.w) k f fd ps sp) (hr : Room (k + 1) X.A) (tk : L2N.Takes X W) (hg : Gl X x) (hm : X.mg x = some (.ref C)) (hb : Binds X.K fd ps []) (ha : PA X (e :: es) t)
    (hdb : (x == ("__debug__" : Str)) = false := by decide) (he : starEach (e :: es) X.env = (false, eval e X.env) :: starEach es X.env := by rfl) (hpl : (backTo pos (starEach es X.env)).any (·.1) = false := by rfl) :
    PE X (.Call (.Name x p) (e :: es) [] pos) (tMakeS C sp W t) := by
  constructor
  intro pins s σ H Q I h
  refine wpAny_Call_Name_kw (ld_glob I hg hm ?_ hdb)
  refine PySem.W.callWith_K (h₀ := X.base) I.ok.mod.kin M.kp (thn (ha.run pos pins s σ H _ I h) ?_) he hpl
  intro us s1 got
  obtain ⟨vs, H1, I1, r, q⟩ := got
  refine ⟨I1.kIn, ?_⟩
  have two : s1.heap.objs.size ≠ s1.heap.objs.size + 1 := Nat.ne_of_lt (Nat.lt_succ_self _)
  have ask := q (s1.heap.objs.size + 1) s1.heap.objs.size (I1.hok.fresh (Nat.le_succ _)) (I1.hok.fresh (Nat.le_refl _)) two
  have made := Inv.made (C := C) I1
  have vals : Vals (V.ref (s1.heap.objs.size + 1) :: vs) (Value.ref (s1.heap.objs.size + 1) :: us) := .cons rfl r
  have arity : (Value.ref (s1.heap.objs.size + 1) :: us).length = ps.length := vals.length.symm.trans (F.len _ _ _ _ ask)
  have bs := hb _ (Value.ref (s1.heap.objs.size + 1) :: us) made.kIn ((congrArg List.length (List.append_nil _)).trans arity)
  rw [List.append_nil] at bs
  have here := made.env0.make C us []
  refine wpAny_call (make_map (f := f) I1.kIn M.makes M.init (beq_iff_eq.mp M.fn) (codeAny_mono (F.run _ X.stack _ _ ⟨Value.ref (s1.heap.objs.size + 1) :: us, []⟩ (Value.ref (s1.heap.objs.size + 1) :: us) _ _ (WE W σ) (hr.make C us []) here bs vals ask) ?_))
  intro rr s2 hq
  match rr, hq with
  | .error u, hq => exact L2N.passAt tk σ pins _ _ u s2 made hq
  | .ok .next, hq => exact hq.elim
  | .ok .brk, hq => exact hq.elim
  | .ok .cont, hq => exact hq.elim
  | .ok (.ret u), hq =>
    obtain ⟨v, H2, I2, rv, ev, q2⟩ := made.after hq
    subst ev
    exact ⟨rv, ⟨V.ref (s1.heap.objs.size + 1), H2, I2, rfl, q2⟩⟩
end
/-- a field made, or refused -/
def FieldOk (ws : List Rat) : Prop := 1 ≤ ws.length ∧ ws.length ≤ 8 ∧ Unit1 ws
def spInitX (K : PySem.W.Frag) : Sp := fun vs H Q E => ∃ (p l dx : Addr) (ws : List Rat), vs = [.ref p, .ref l] ∧ H p = some (.ins (FC K) dx []) ∧ RL K H l ws ∧ ws.length ≤ 1000 ∧
  (FieldOk ws → ∀ (m : Addr) (H' : Hp), H m = none → FieldAt K H' p m ws → (∀ b o, H b = some o → b ≠ p → H' b = some o) → Q .non H') ∧ (¬ FieldOk ws → E (.ref (He.ga K "NoField")) none H)
def InitOkX (P : Program) (w : World) (K : PySem.W.Frag) (mg : Str → Option Value) (base : Heap) : Prop := ∃ f fd, FnOk P w K mg base (CXN P w) 1 f fd ["self", "walls"] (spInitX K) ∧ Mk K (FC K) f ∧ Binds K fd ["self", "walls"] []
theorem make_fieldX {K : PySem.W.Frag} {H : Hp} {Q : Addr → Hp → Prop} {W : XK} {l : Addr} {ws : List Rat} (h : RL K H l ws) (hn : ws.length ≤ 1000)
    (hQ : FieldOk ws → ∀ (p m : Addr) (H' : Hp), H p = none → H m = none → Same H H' → FieldAt K H' p m ws → Q p H') (hE : ¬ FieldOk ws → ∀ H', Same H H' → W (.ref (He.ga K "NoField")) none H') :
    ∀ x dx, H x = none → H dx = none → dx ≠ x → spInitX K (.ref x :: [.ref l]) (upd (upd H dx (.own x)) x (.ins (FC K) dx [])) (fun v H2 => v = .non ∧ Q x H2) W := by
  intro x dx nx nd ne
  have s0 : Same H (upd (upd H dx (.own x)) x (.ins (FC K) dx [])) := fun b o e => by
    rw [upd_ne (ne_of_none e nx), upd_ne (ne_of_none e nd)]
    exact e
  exact ⟨x, l, dx, ws, rfl, upd_same, h.same s0, hn, fun ok m H' hm hf hk => ⟨rfl, hQ ok x m H' nx (s0.free hm) (fun b o e => hk b o (s0 b o e) (ne_of_none e nx)) hf⟩, fun no => hE no _ s0⟩
def spJoinedX (K : PySem.W.Frag) : Sp := fun vs H Q E => ∃ (f l g m : Addr) (ws us : List Rat), vs = [.ref f, .ref g] ∧ FieldAt K H f l ws ∧ FieldAt K H g m us ∧ 1 ≤ ws.length ∧ ws.length ≤ 8 ∧ us.length ≤ 8 ∧ Unit1 ws ∧ Unit1 us ∧
  (ws.length + us.length ≤ 8 → ∀ (p r : Addr) (H' : Hp), H p = none → H r = none → Same H H' → FieldAt K H' p r (ws ++ us) → Q (.ref p) H') ∧ (8 < ws.length + us.length → ∀ H', Same H H' → E (.ref (He.ga K "TooMany")) none H')
def spMade (K : PySem.W.Frag) : Sp := fun vs H Q _ =>
  (∃ (l : Addr) (ws : List Rat), vs = [.int 0, .ref l, .non] ∧ RL K H l ws ∧ ws.length ≤ 1000 ∧
    (FieldOk ws → ∀ (t x m lk : Addr) (H' : Hp), Same H H' → H' t = some (.tup [.ref x, .ref lk]) → FieldAt K H' x m ws → H x = none → H m = none → RL K H' lk [] → Q (.ref t) H') ∧
    (¬ FieldOk ws → ∀ (t lk : Addr) (H' : Hp), Same H H' → H' t = some (.tup [.non, .ref lk]) → H' lk = some (.lst ((kindL 0).map V.bl)) → Q (.ref t) H')) ∨
  (∃ (f l g m : Addr) (ws us : List Rat), vs = [.int 1, .ref f, .ref g] ∧ FieldAt K H f l ws ∧ FieldAt K H g m us ∧ 1 ≤ ws.length ∧ ws.length ≤ 8 ∧ us.length ≤ 8 ∧ Unit1 ws ∧ Unit1 us ∧
    (ws.length + us.length ≤ 8 → ∀ (t x r lk : Addr) (H' : Hp), Same H H' → H' t = some (.tup [.ref x, .ref lk]) → FieldAt K H' x r (ws ++ us) → RL K H' lk [] → Q (.ref t) H') ∧
    (8 < ws.length + us.length → ∀ (t lk : Addr) (H' : Hp), Same H H' → H' t = some (.tup [.non, .ref lk]) → H' lk = some (.lst ((kindL 3).map V.bl)) → Q (.ref t) H'))
theorem rat_of {K : PySem.W.Frag} {H : Hp} {t : Addr} {q : Rat} {n d : Int} (e : H t = some (.tup [.int n, .int d])) (hn : n = q.num) (hd : d = (q.den : Int)) : RatAt K H (.ref t) q := ⟨t, rfl, by rw [← hn, ← hd]; exact SqT.of e⟩
/-- the last item stored -/
theorem ixs_last {K : PySem.W.Frag} {H : Hp} {l : Addr} {qs : List Rat} {Q : Hp → Prop} {v : V} {q : Rat} (h : RL K H l qs) (hi : 0 < qs.length) (r : RatAt K H v q)
    (hQ : ∀ H', Kt H H' → (∀ b, b ≠ l → H' b = H b) → RL K H' l (qs.set (qs.length - 1) q) → Q H') : rSetL (.ref l) (.int (-1)) v H Q := by
  obtain ⟨xs, e, rx⟩ := h
  have hx : 0 < xs.length := by rw [rx.1]; exact hi
  refine ⟨l, xs, -1, qs.length - 1, rfl, rfl, e, ?_, hQ _ (Kt.set e) (fun b hb => upd_ne hb) (RL.upd e (rx.set r))⟩
  unfold ixN
  have h1 := rx.1
  rw [if_neg (by omega), if_pos (by omega)]
  congr 1
  omega
end Ef
namespace Ef
open PySem PySem.Spec PyProof.Rows L2
def topS (i : Nat) : Stmt := PySem.Challenge.pw_echofield_k02_fields.main.body.getD i (.Pass ⟨0, 0, 0, 0⟩)
abbrev s_Field_init : Stmt := inClass (topS 8) 0
abbrev s_Field_walls : Stmt := inClass (topS 8) 1
abbrev s_law_low : Stmt := topS 16
abbrev s_law_side : Stmt := topS 21
abbrev s_law_cell_at : Stmt := topS 12
abbrev s_joined : Stmt := topS 10
abbrev s_law_kind : Stmt := topS 14
abbrev s_law_made : Stmt := topS 23
abbrev s_law_one : Stmt := topS 15
abbrev s_law_whole : Stmt := topS 13
abbrev s_law_parts : Stmt := topS 20
abbrev s_law_sides : Stmt := topS 22
abbrev s_turned : Stmt := topS 9
abbrev s_law : Stmt := topS 24
section
variable {P : Program} {w : World} {K : PySem.W.Frag} {mg : Str → Option Value} {base : Heap}

theorem sc_Field_init : FnScope ["self", "walls", "top", "bottom"] ["self", "walls"] (defScope s_Field_init) := ⟨rfl, rfl, rfl, by decide +kernel, rfl, by decide +kernel, by decide +kernel⟩
theorem ok_Field_init {f : Addr} {fd : FuncData} (F : FnP K "__init__" "Field.__init__" s_Field_init f fd) (B : Bt mg) (TF : FTx K mg) : FnOk P w K mg base CX0 1 f fd ["self", "walls"] (spInit K) := by
  refine F.ok sc_Field_init (fun vs H Q E h => ?_) (fun cdv A outer s H vs Q E hr h => ?_)
  · obtain ⟨p, l, dx, ws, rfl, _⟩ := h
    rfl
  · obtain ⟨p, l, dx, ws, rfl, hp, hl, h1, h8, hu, k⟩ := h
    refine ⟨_, PSs.nox (pss_cons (ps_if (pt_not (pt_chain op_le op_le pe_int (pe_callB call_len_seq (by rfl) B.len (by decide +kernel) (pa_cons (pv 1) pa_nil)) pe_int)) (pss_one ps_never) pss_nil)
      (pss_cons (ps_for PassesOwn.never rfl (pi_list (pv 1)) (pg_tup (by rfl) (pgs_cons (pg_name (i := 2) sc_Field_init.nd rfl (Or.inl rfl)) (pgs_cons (pg_name (i := 3) sc_Field_init.nd rfl (Or.inl rfl)) pgs_nil))) (pss_one (ps_if (pt_not (pt_chain op_le op_le pe_int (pv 2) (pv 3))) (pss_one ps_never) pss_nil)))
      (pss_one (ps_fld (pv 0) (pe_lc (own := [("top", 2), ("bottom", 3)]) (g := (gTup K 2 (gCons (gName 2) (gCons (gName 3) gNil)))) (tt := tYes) rfl sc_Field_init.nd (pi_list (pv 1)) (blkOk_by (own := [("top", 2), ("bottom", 3)]) (N := ["self", "walls", "top", "bottom"]) (sc := defScope s_Field_init) (by decide +kernel)) (fun _ _ _ _ _ => (pg_tup (by rfl) (pgs_cons (pg_name (i := 2) sc_Field_init.nd rfl (Or.inl rfl)) (pgs_cons (pg_name (i := 3) sc_Field_init.nd rfl (Or.inl rfl)) pgs_nil)))) (fun _ _ _ _ _ => pts_nil) (fun _ _ _ _ _ => (pe_tup (pa_cons (pv 2) (pa_cons (pv 3) pa_nil))))) rfl)))), ?_⟩
    obtain ⟨xs, ex, rx⟩ := id hl
    -- the length
    refine ⟨_, rfl, l, xs, rfl, .inl (SqL.of ex), _, _, rfl, rfl, true, congrArg V.bl (decide_eq_true (by rw [rx.1]; omega)), ifT rfl ⟨_, _, rfl, rfl, true, congrArg V.bl (decide_eq_true (by rw [rx.1]; omega)), ifF rfl ?_⟩⟩
    -- each part
    refine ⟨_, rfl, l, rfl, ⟨xs, SqL.of ex⟩, for_list (K := K) (a := l) (xs := xs) (fun i σ H' => H' = H ∧ ∃ t b : Option V, σ = [some (.ref p), some (.ref l), t, b]) ⟨rfl, none, none, rfl⟩ (fun i σ H' _ ⟨e, _⟩ => by rw [e]; exact SqL.of ex) ?_ ?_⟩
    · rintro i v σ H' hi ⟨rfl, t, b, rfl⟩
      have hil : i < ws.length := by rw [← rx.1]; exact (List.getElem?_eq_some_iff.mp hi).1
      obtain ⟨a, rfl, ha⟩ := rx.2 i v ws[i] hi (List.getElem?_eq_getElem hil)
      obtain ⟨q0, q1⟩ := hu ws[i] (List.getElem_mem hil)
      refine ⟨a, _, rfl, ha, rfl, _, _, rfl, _, _, rfl, ⟨rfl, ?_⟩⟩
      refine ⟨_, rfl, _, _, rfl, rfl, true, congrArg V.bl (decide_eq_true q0), ifT rfl ⟨_, rfl, _, _, rfl, rfl, true, congrArg V.bl (decide_eq_true q1), ifF rfl ?_⟩⟩
      exact ⟨rfl, _, _, rfl⟩
    · rintro σ H' ⟨rfl, t, b, rfl⟩
      -- the parts kept
      refine ⟨_, rfl, l, rfl, ⟨xs, SqL.of ex⟩, fun D hD => ?_⟩
      refine lc_list (K := K) (a := l) (xs := xs) (fun i H2 => Same H' H2 ∧ RL K H2 D (ws.take i)) ⟨same_new hD, by rw [List.take_zero]; exact RL.new hD Rats.nil⟩ (fun i H2 _ ⟨s2, _⟩ => s2.seq (SqL.of ex)) ?_ ?_
      · rintro i v H2 hi ⟨s2, r2⟩
        have hil : i < ws.length := by rw [← rx.1]; exact (List.getElem?_eq_some_iff.mp hi).1
        obtain ⟨a, rfl, ha⟩ := rx.2 i v ws[i] hi (List.getElem?_eq_getElem hil)
        refine ⟨a, _, rfl, (kt_of s2).tup ha, rfl, _, _, rfl, _, _, rfl, rfl, rfl, yesQ (ifT rfl ?_)⟩
        refine ⟨_, rfl, _, rfl, (by show 2 ≤ sizeLine; decide), fun t ht => ?_⟩
        have r3 : RL K (upd H2 t (.tup [.int ws[i].num, .int (ws[i].den : Int)])) D (ws.take i) := r2.same (same_new ht)
        obtain ⟨acc, ea, ra⟩ := r3
        have el : acc.length = i := by rw [ra.1, List.length_take]; omega
        refine ⟨acc, ea, small1000 (by omega), same_but (s2.trans (same_new ht)) hD (fun b hb => upd_ne hb), ?_⟩
        rw [List.take_succ, List.getElem?_eq_getElem hil]
        exact RL.upd ea (ra.push ⟨t, rfl, SqT.of upd_same⟩)
      · rintro H2 ⟨s2, r2⟩
        have npD : p ≠ D := ne_of_none hp hD
        refine ⟨_, rfl, p, _, dx, [], rfl, s2 _ _ hp, TF.cl, TF.nP, (by show 0 < 1000; decide), ?_⟩
        rw [rx.1, List.take_length] at r2
        refine k D _ hD ⟨⟨dx, upd_same⟩, ?_⟩ (fun b o e hb => ?_)
        · obtain ⟨ys, ey, ry⟩ := r2
          refine ⟨ys, by rw [upd_ne npD.symm]; exact ey, ry.kt (Kt.obj (s2 _ _ hp))⟩
        · rw [upd_ne hb]
          exact s2 b o e

theorem sc_Field_walls : FnScope ["self"] ["self"] (defScope s_Field_walls) := ⟨rfl, rfl, rfl, by decide +kernel, rfl, by decide +kernel, by decide +kernel⟩
theorem ok_Field_walls {f : Addr} {fd : FuncData} (F : FnP K "walls" "Field.walls" s_Field_walls f fd) (B : Bt mg) (TF : FTx K mg) : FnOk P w K mg base CX0 1 f fd ["self"] (spWalls K) := by
  refine F.ok sc_Field_walls (fun vs H Q E h => ?_) (fun cdv A outer s H vs Q E hr h => ?_)
  · obtain ⟨p, l, ws, rfl, _⟩ := h
    rfl
  · obtain ⟨p, l, ws, rfl, ⟨⟨dx, e⟩, hl⟩, hn, k⟩ := h
    refine ⟨_, PSs.nox (pss_one (ps_ret (pe_callTy call_list_of (by rfl) B.list (by decide +kernel) (pa_cons (pe_fld (pv 0) rfl) pa_nil)))), ?_⟩
    obtain ⟨xs, ex, rx⟩ := hl
    refine ⟨_, rfl, p, _, dx, _, _, rfl, e, TF.cl, TF.nP, rfl, l, xs, rfl, .inl (SqL.of ex), fun m hm => ?_⟩
    exact k m _ hm (same_new hm) (RL.new hm rx)

theorem ok_Field_init_X {f : Addr} {fd : FuncData} (F : FnP K "__init__" "Field.__init__" s_Field_init f fd) (B : Bt mg) (TF : FTx K mg) (eF : ErrX K mg "NoField") : FnOk P w K mg base (CXN P w) 1 f fd ["self", "walls"] (spInitX K) := by
  refine F.ok sc_Field_init (fun vs H Q E h => ?_) (fun cdv A outer s H vs Q E hr h => ?_)
  · obtain ⟨p, l, dx, ws, rfl, _⟩ := h
    rfl
  · obtain ⟨p, l, dx, ws, rfl, hp, hl, hn, k, kE⟩ := h
    refine ⟨_, (pss_cons (ps_if (pt_not (pt_chain op_le op_le pe_int (pe_callB call_len_seq (by rfl) B.len (by decide +kernel) (pa_cons (pv 1) pa_nil)) pe_int)) (pss_one (L2N.ps_raise rfl (L2N.takes_of rfl rfl rfl rfl) (L2N.pmk_own PySem.F.excBase_ValueError eF.xc eF.g eF.k (raises_own eF.b eF.t) rfl))) pss_nil)
      (pss_cons (ps_for PassesOwn.leaving rfl (pi_list (pv 1)) (pg_tup (by rfl) (pgs_cons (pg_name (i := 2) sc_Field_init.nd rfl (Or.inl rfl)) (pgs_cons (pg_name (i := 3) sc_Field_init.nd rfl (Or.inl rfl)) pgs_nil))) (pss_one (ps_if (pt_not (pt_chain op_le op_le pe_int (pv 2) (pv 3))) (pss_one (L2N.ps_raise rfl (L2N.takes_of rfl rfl rfl rfl) (L2N.pmk_own PySem.F.excBase_ValueError eF.xc eF.g eF.k (raises_own eF.b eF.t) rfl))) pss_nil)))
      (pss_one (ps_fld (pv 0) (pe_lc (own := [("top", 2), ("bottom", 3)]) (g := (gTup K 2 (gCons (gName 2) (gCons (gName 3) gNil)))) (tt := tYes) rfl sc_Field_init.nd (pi_list (pv 1)) (blkOk_by (own := [("top", 2), ("bottom", 3)]) (N := ["self", "walls", "top", "bottom"]) (sc := defScope s_Field_init) (by decide +kernel)) (fun _ _ _ _ _ => (pg_tup (by rfl) (pgs_cons (pg_name (i := 2) sc_Field_init.nd rfl (Or.inl rfl)) (pgs_cons (pg_name (i := 3) sc_Field_init.nd rfl (Or.inl rfl)) pgs_nil)))) (fun _ _ _ _ _ => pts_nil) (fun _ _ _ _ _ => (pe_tup (pa_cons (pv 2) (pa_cons (pv 3) pa_nil))))) rfl)))), ?_⟩
    obtain ⟨xs, ex, rx⟩ := id hl
    -- the length
    refine ⟨_, rfl, l, xs, rfl, .inl (SqL.of ex), ?_⟩
    rw [rx.1]
    by_cases h1 : 1 ≤ ws.length
    rotate_left
    · exact ⟨_, _, rfl, rfl, false, congrArg V.bl (decide_eq_false (by omega)), ifF rfl ⟨false, rfl, ifT rfl (kE fun z => h1 z.1)⟩⟩
    by_cases h8 : ws.length ≤ 8
    rotate_left
    · exact ⟨_, _, rfl, rfl, true, congrArg V.bl (decide_eq_true (by omega)), ifT rfl ⟨_, _, rfl, rfl, false, congrArg V.bl (decide_eq_false (by omega)), ifT rfl (kE fun z => h8 z.2.1)⟩⟩
    refine ⟨_, _, rfl, rfl, true, congrArg V.bl (decide_eq_true (by omega)), ifT rfl ⟨_, _, rfl, rfl, true, congrArg V.bl (decide_eq_true (by omega)), ifF rfl ?_⟩⟩
    -- each part
    refine ⟨_, rfl, l, rfl, ⟨xs, SqL.of ex⟩, for_list (K := K) (a := l) (xs := xs) (fun i σ H' => H' = H ∧ (∀ j q, j < i → ws[j]? = some q → 0 ≤ q.num ∧ q.num ≤ (q.den : Int)) ∧ ∃ t b : Option V, σ = [some (.ref p), some (.ref l), t, b]) ⟨rfl, fun j q hj => by omega, none, none, rfl⟩ (fun i σ H' _ ⟨e, _⟩ => by rw [e]; exact SqL.of ex) ?_ ?_⟩
    · rintro i v σ H' hi ⟨rfl, hg, t, b, rfl⟩
      have hil : i < ws.length := by rw [← rx.1]; exact (List.getElem?_eq_some_iff.mp hi).1
      have e1 : ws[i]? = some ws[i] := List.getElem?_eq_getElem hil
      obtain ⟨a, rfl, ha⟩ := rx.2 i v ws[i] hi e1
      refine ⟨a, _, rfl, ha, rfl, _, _, rfl, _, _, rfl, ⟨rfl, ?_⟩⟩
      have no : ∀ z : ¬ (0 ≤ ws[i].num ∧ ws[i].num ≤ (ws[i].den : Int)), ¬ FieldOk ws := fun z y => z (y.2.2 _ (List.getElem_mem hil))
      by_cases q0 : 0 ≤ ws[i].num
      rotate_left
      · exact ⟨_, rfl, _, _, rfl, rfl, false, congrArg V.bl (decide_eq_false q0), ifF rfl ⟨false, rfl, ifT rfl (kE (no fun z => q0 z.1))⟩⟩
      by_cases q1 : ws[i].num ≤ (ws[i].den : Int)
      rotate_left
      · exact ⟨_, rfl, _, _, rfl, rfl, true, congrArg V.bl (decide_eq_true q0), ifT rfl ⟨_, rfl, _, _, rfl, rfl, false, congrArg V.bl (decide_eq_false q1), ifT rfl (kE (no fun z => q1 z.2))⟩⟩
      refine ⟨_, rfl, _, _, rfl, rfl, true, congrArg V.bl (decide_eq_true q0), ifT rfl ⟨_, rfl, _, _, rfl, rfl, true, congrArg V.bl (decide_eq_true q1), ifF rfl ?_⟩⟩
      refine ⟨rfl, fun j q hj eq => ?_, _, _, rfl⟩
      by_cases hji : j = i
      · subst hji
        rw [e1] at eq
        cases eq
        exact ⟨q0, q1⟩
      · exact hg j q (by omega) eq
    · rintro σ H' ⟨rfl, hg, t, b, rfl⟩
      have hu : Unit1 ws := fun q hq => by
        obtain ⟨j, hj, ej⟩ := List.mem_iff_getElem.mp hq
        exact hg j q (by rw [rx.1]; exact hj) (by rw [List.getElem?_eq_getElem hj, ej])
      -- the parts kept
      refine ⟨_, rfl, l, rfl, ⟨xs, SqL.of ex⟩, fun D hD => ?_⟩
      refine lc_list (K := K) (a := l) (xs := xs) (fun i H2 => Same H' H2 ∧ RL K H2 D (ws.take i)) ⟨same_new hD, by rw [List.take_zero]; exact RL.new hD Rats.nil⟩ (fun i H2 _ ⟨s2, _⟩ => s2.seq (SqL.of ex)) ?_ ?_
      · rintro i v H2 hi ⟨s2, r2⟩
        have hil : i < ws.length := by rw [← rx.1]; exact (List.getElem?_eq_some_iff.mp hi).1
        obtain ⟨a, rfl, ha⟩ := rx.2 i v ws[i] hi (List.getElem?_eq_getElem hil)
        refine ⟨a, _, rfl, (kt_of s2).tup ha, rfl, _, _, rfl, _, _, rfl, rfl, rfl, yesQ (ifT rfl ?_)⟩
        refine ⟨_, rfl, _, rfl, (by show 2 ≤ sizeLine; decide), fun t ht => ?_⟩
        have r3 : RL K (upd H2 t (.tup [.int ws[i].num, .int (ws[i].den : Int)])) D (ws.take i) := r2.same (same_new ht)
        obtain ⟨acc, ea, ra⟩ := r3
        have el : acc.length = i := by rw [ra.1, List.length_take]; omega
        refine ⟨acc, ea, small1000 (by omega), same_but (s2.trans (same_new ht)) hD (fun b hb => upd_ne hb), ?_⟩
        rw [List.take_succ, List.getElem?_eq_getElem hil]
        exact RL.upd ea (ra.push ⟨t, rfl, SqT.of upd_same⟩)
      · rintro H2 ⟨s2, r2⟩
        have npD : p ≠ D := ne_of_none hp hD
        refine ⟨_, rfl, p, _, dx, [], rfl, s2 _ _ hp, TF.cl, TF.nP, (by show 0 < 1000; decide), ?_⟩
        rw [rx.1, List.take_length] at r2
        refine k ⟨h1, h8, hu⟩ D _ hD ⟨⟨dx, upd_same⟩, ?_⟩ (fun b o e hb => ?_)
        · obtain ⟨ys, ey, ry⟩ := r2
          refine ⟨ys, by rw [upd_ne npD.symm]; exact ey, ry.kt (Kt.obj (s2 _ _ hp))⟩
        · rw [upd_ne hb]
          exact s2 b o e

theorem sc_law_low : FnScope ["top", "bottom", "one", "other", "rest"] ["top", "bottom"] (defScope s_law_low) := ⟨rfl, rfl, rfl, by decide +kernel, rfl, by decide +kernel, by decide +kernel⟩
theorem ok_law_low (D : Df K mg "_law_low" s_law_low) (B : Bt mg) : Gd CX0 P w K mg base 1 "_law_low" ["top", "bottom"] (spLow K) := by
  refine gd_of D sc_law_low (fun _ _ _ _ _ _ us hl => match us, hl with | [_, _], _ => rfl) (fun vs H Q E h => ?_) (fun f cdv A outer s H vs Q E hr h => ?_)
  · obtain ⟨t, b, rfl, _⟩ := h
    rfl
  · obtain ⟨t, b, rfl, hb, hl, k⟩ := h
    refine ⟨_, PSs.nox (pss_cons (ps_set (i := 2) sc_law_low.nd rfl (Or.inl rfl) (pe_callB call_abs (by rfl) B.abs (by decide +kernel) (pa_cons (pv 0) pa_nil)))
      (pss_cons (ps_set (i := 3) sc_law_low.nd rfl (Or.inl rfl) (pv 1))
      (pss_cons (ps_while PassesOwn.never (pt_cmpR op_gt (pv 3) pe_int (nomark _)) (pss_cons (ps_set (i := 4) sc_law_low.nd rfl (Or.inl rfl) (pe_op op_modN (pv 2) (pv 3))) (pss_cons (ps_set (i := 2) sc_law_low.nd rfl (Or.inl rfl) (pv 3)) (pss_one (ps_set (i := 3) sc_law_low.nd rfl (Or.inl rfl) (pv 4))))))
      (pss_one (ps_ret (pe_tup (pa_cons (pe_op op_fdivW (pv 0) (pv 2)) (pa_cons (pe_op op_fdivW (pv 1) (pv 2)) pa_nil)))))))), ?_⟩
    refine ⟨_, rfl, _, rfl, _, rfl, ?_⟩
    obtain ⟨c1, c2, e1, e2⟩ := low_facts t b b rfl hb hl
    refine ⟨fun m σ H1 => H1 = H ∧ ∃ (x y : Nat) (r : Option V), σ = [some (.int t), some (.int (b : Nat)), some (.int x), some (.int y), r] ∧ m = y ∧ Nat.gcd x y = Nat.gcd t.natAbs b,
      ⟨b, rfl, t.natAbs, b, none, congrArg (fun z => [some (V.int t), some (V.int (b : Nat)), some (V.int z), some (V.int (b : Nat)), none]) (abs_int t), rfl, rfl⟩, ?_⟩
    rintro m σ H1 ⟨rfl, x, y, r, rfl, rfl, eg⟩
    refine ⟨_, rfl, _, _, rfl, rfl, _, rfl, ?_⟩
    refine if2 (fun hy => ?_) (fun hy => ?_)
    · have hy : 0 < m := by omega
      refine ⟨fun σ' H' => H' = H1 ∧ ∃ r : Option V, σ' = [some (.int t), some (.int (b : Nat)), some (.int (m : Nat)), some (.int ((x % m : Nat) : Int)), r], ?_, ?_⟩
      · rintro σ' H' ⟨rfl, r', rfl⟩
        refine ⟨x % m, Nat.mod_lt _ hy, rfl, m, x % m, r', rfl, rfl, ?_⟩
        rw [← eg, Nat.gcd_comm x m, Nat.gcd_rec m x, Nat.gcd_comm m]
      · refine ⟨_, rfl, _, rfl, _, _, rfl, rfl, (by omega), ?_⟩
        refine ⟨_, rfl, _, rfl, rfl, some (.int ((x % m : Nat) : Int)), ?_⟩
        have ef : Int.fmod (x : Int) (m : Int) = ((x % m : Nat) : Int) := by rw [Int.fmod_eq_emod_of_nonneg _ (by omega)]; rfl
        exact congrArg (fun z => [some (V.int t), some (V.int (b : Nat)), some (V.int (m : Nat)), some (V.int z), some (V.int z)]) ef
    · have e : m = 0 := by omega
      subst e
      rw [Nat.gcd_zero_right] at eg
      subst eg
      refine ⟨_, rfl, _, rfl, _, _, rfl, rfl, c1, _, rfl, _, rfl, _, _, rfl, rfl, c2, (by show 2 ≤ sizeLine; decide), fun p hp => ?_⟩
      exact k p _ (same_new hp) (rat_new (congrArg V.int e1) (congrArg V.int e2))

theorem sc_law_side : FnScope ["cell", "bottom"] ["cell"] (defScope s_law_side) := ⟨rfl, rfl, rfl, by decide +kernel, rfl, by decide +kernel, by decide +kernel⟩
theorem ok_law_side (D : Df K mg "_law_side" s_law_side) (B : Bt mg) (g_law_low : Gd CX0 P w K mg base 1 "_law_low" ["top", "bottom"] (spLow K)) : Gd CX0 P w K mg base 2 "_law_side" ["cell"] (spSide K) := by
  refine gd_of D sc_law_side (fun _ _ _ _ _ _ us hl => match us, hl with | [_], _ => rfl) (fun vs H Q E h => ?_) (fun f cdv A outer s H vs Q E hr h => ?_)
  · obtain ⟨c, rfl, _⟩ := h
    rfl
  · obtain ⟨c, rfl, k⟩ := h
    refine ⟨_, PSs.nox (pss_cons (ps_set (i := 1) sc_law_side.nd rfl (Or.inl rfl) (pe_op op_add pe_int (pe_op op_mod (pv 0) pe_int)))
      (C8.pss_cut (ps_if (pt_cmpR op_eq (pe_op op_mod (pe_op op_fdiv (pv 0) pe_int) pe_int) pe_int (nomark _)) (pss_one (ps_set (i := 1) sc_law_side.nd rfl (Or.inl rfl) pe_int)) pss_nil)
      (pss_one (ps_ret (pe_gd g_law_low hr (pa_cons (pe_op op_mod (pe_op op_fdiv (pv 0) pe_int) (pe_op op_add (pv 1) pe_int)) (pa_cons (pv 1) pa_nil))))))), ?_⟩
    refine ⟨_, rfl, _, _, rfl, rfl, (by show (0 : Int) < 6; decide), _, _, rfl, rfl, ?_⟩
    refine ⟨fun σ' H' => H' = H ∧ ∃ n : Nat, σ' = [some (.int c), some (.int (n : Int))] ∧ n ≠ 0 ∧ n ≤ 1000 ∧ mkRat (c / 30 % ((n : Int) + 1)) n = sideOf c, ?_, ?_⟩
    · refine ⟨_, rfl, _, _, rfl, rfl, ⟨by decide, by decide⟩, _, _, rfl, rfl, (by show (0 : Int) < 5; decide), rfl, _, rfl, ?_⟩
      have m0 : 0 ≤ c % 6 := Int.emod_nonneg _ (by decide)
      have m1 : c % 6 < 6 := Int.emod_lt_of_pos _ (by decide)
      refine ifB (fun he => ?_) (fun he => ?_)
      · have e : c / 6 % 5 = 0 := V.int.inj (of_decide_eq_true he)
        refine ⟨rfl, 1, rfl, by decide, by decide, ?_⟩
        unfold sideOf
        rw [if_pos e]
        rfl
      · have e : ¬ c / 6 % 5 = 0 := deqF he
        obtain ⟨n, en⟩ := Int.eq_ofNat_of_zero_le (show 0 ≤ 1 + c % 6 by omega)
        refine ⟨rfl, n, congrArg (fun z => [some (V.int c), some (V.int z)]) en, by omega, by omega, ?_⟩
        unfold sideOf
        rw [if_neg e, en, Int.toNat_natCast]
    · rintro σ' H' ⟨rfl, n, rfl, n0, n1, er⟩
      refine ⟨_, rfl, _, _, rfl, rfl, ⟨by decide, by decide⟩, _, rfl, _, _, rfl, rfl, _, _, rfl, rfl, (by show (0 : Int) < (n : Int) + 1; omega), _, rfl, ?_⟩
      refine ⟨_, n, rfl, n0, Nat.lt_of_le_of_lt n1 (Nat.lt_of_lt_of_le (m := 2 ^ 10) (by decide) (Nat.pow_le_pow_right (by decide) (by decide))), fun r H' s hr => ?_⟩
      rw [er] at hr
      exact k r H' s hr

theorem sc_law_cell_at : FnScope ["script", "k"] ["script", "k"] (defScope s_law_cell_at) := ⟨rfl, rfl, rfl, by decide +kernel, rfl, by decide +kernel, by decide +kernel⟩
theorem ok_law_cell_at (D : Df K mg "_law_cell_at" s_law_cell_at) (B : Bt mg) : Gd CX0 P w K mg base 1 "_law_cell_at" ["script", "k"] (spCellAt K) := by
  refine gd_of D sc_law_cell_at (fun _ _ _ _ _ _ us hl => match us, hl with | [_, _], _ => rfl) (fun vs H Q E h => ?_) (fun f cdv A outer s H vs Q E hr h => ?_)
  · obtain ⟨a, ns, k, rfl, _⟩ := h
    rfl
  · obtain ⟨a, ns, k, rfl, hS, q⟩ := h
    refine ⟨_, PSs.nox (pss_cons (ps_if (pt_cmpR op_lt (pv 1) (pe_callB call_len_seq (by rfl) B.len (by decide +kernel) (pa_cons (pv 0) pa_nil)) (nomark _)) (pss_one (ps_ret (pe_ix ix_list (pv 0) (pv 1) (fun _ _ => rfl)))) pss_nil)
      (pss_one (ps_ret pe_int))), ?_⟩
    refine ⟨_, rfl, _, rfl, a, _, rfl, .inl hS, _, _, rfl, rfl, _, rfl, ?_⟩
    rw [List.length_map]
    refine if2 (fun hk => ?_) (fun hk => ?_)
    · have hk : k < ns.length := by omega
      refine ⟨_, rfl, _, rfl, a, _, _, .int (cellAt ns k), rfl, rfl, hS, atI_nat ?_, q⟩
      rw [List.getElem?_map, List.getElem?_eq_getElem hk]
      show some (V.int ns[k]) = some (V.int (ns.getD k 0))
      rw [List.getD_eq_getElem?_getD, List.getElem?_eq_getElem hk]
      rfl
    · have e : cellAt ns k = 0 := by
        unfold cellAt
        rw [List.getD_eq_getElem?_getD, List.getElem?_eq_none (by omega)]
        rfl
      rw [e] at q
      exact q

theorem sc_joined : FnScope ["one", "other", "walls"] ["one", "other"] (defScope s_joined) := ⟨rfl, rfl, rfl, by decide +kernel, rfl, by decide +kernel, by decide +kernel⟩
theorem ok_joined_X (D : Df K mg "joined" s_joined) (B : Bt mg) (TF : FTx K mg) (gI : InitOk P w K mg base) (gW : WallsOk P w K mg base) (eT : ErrX K mg "TooMany") : Gd (CXN P w) P w K mg base 3 "joined" ["one", "other"] (spJoinedX K) := by
  obtain ⟨fI, fdI, FI, MI, bI⟩ := gI
  obtain ⟨fW, fdW, FW, MW, bW⟩ := gW
  refine gd_of D sc_joined (fun _ _ _ _ _ _ us hl => match us, hl with | [_, _], _ => rfl) (fun vs H Q E h => ?_) (fun f cdv A outer s H vs Q E hr h => ?_)
  · obtain ⟨f, l, g, m, ws, us, rfl, _⟩ := h
    rfl
  · obtain ⟨f, l, g, m, ws, us, rfl, hF, hG, h1, hw8, hu8, hu, hv, k, kE⟩ := h
    refine ⟨_, (pss_cons (ps_set (i := 2) sc_joined.nd rfl (Or.inl rfl) (pe_op op_cat (pe_meth0 (pv 0) TF.cl MW FW (hr.mono (by decide)) bW .nil pass0) (pe_meth0 (pv 1) TF.cl MW FW (hr.mono (by decide)) bW .nil pass0)))
      (pss_cons (ps_if (pt_cmpR op_gt (pe_callB call_len_seq (by rfl) B.len (by decide +kernel) (pa_cons (pv 2) pa_nil)) pe_int (nomark _)) (pss_one (L2N.ps_raise rfl (L2N.takes_of rfl rfl rfl rfl) (L2N.pmk_own PySem.F.excBase_ValueError eT.xc eT.g eT.k (raises_own eT.b eT.t) rfl))) pss_nil)
      (pss_one (ps_ret (pe_make MI FI (hr.mono (by decide)) rfl TF.gF bI .nil pass0 (pa_cons (pv 2) pa_nil)))))), ?_⟩
    refine ⟨_, rfl, ask_walls hF (by omega) fun w1 H1 nw1 s1 r1 => ?_⟩
    refine ⟨_, rfl, ask_walls (hG.same s1) (by omega) fun w2 H2 nw2 s2 r2 => ?_⟩
    obtain ⟨xs, ex, rx⟩ := id (r1.same s2)
    obtain ⟨ys, ey, ry⟩ := id r2
    refine ⟨w1, w2, xs, ys, rfl, rfl, ex, ey, ?_, fun lr hr0 => ?_⟩
    · have e1 := rx.1
      have e2 := ry.1
      exact Nat.le_trans (show xs.length + ys.length ≤ 1000 by omega) (by decide)
    have s3 := (s1.trans s2).trans (same_new (u := .lst (xs ++ ys)) hr0)
    have ra : RL K (upd H2 lr (.lst (xs ++ ys))) lr (ws ++ us) := RL.new hr0 (rx.append ry)
    obtain ⟨zs, ez, rz⟩ := id ra
    refine ⟨_, rfl, lr, zs, rfl, .inl (SqL.of ez), _, _, rfl, rfl, _, rfl, ?_⟩
    rw [rz.1, List.length_append]
    refine ifB (fun h => kE ?_ _ s3) (fun h => ?_)
    · have := of_decide_eq_true h
      omega
    have h8 : ws.length + us.length ≤ 8 := by
      have := of_decide_eq_false h
      omega
    refine ⟨_, rfl, nI (make_field ra (by rw [List.length_append]; omega) (by rw [List.length_append]; omega) (hu.app hv) fun p r H4 np nr s4 F4 => ?_)⟩
    exact k h8 p r H4 (s3.free np) (s3.free nr) (s3.trans s4) F4

theorem sc_law_kind : FnScope ["e", "kinds"] ["e"] (defScope s_law_kind) := ⟨rfl, rfl, rfl, by decide +kernel, rfl, by decide +kernel, by decide +kernel⟩
theorem ok__law_kind (DF : Df K mg "_law_kind" s_law_kind) (B : Bt mg) (eG : ExG K mg) : GdKind P w K mg base := by
  obtain ⟨f, fd, F, g⟩ := DF
  refine ⟨f, fd, fun D j kd => ?_, g, F.kp, F.bindsN (fun _ _ _ _ _ _ us hl => match us, hl with | [_], _ => rfl)⟩
  refine fne_of F sc_law_kind (fun a vs H Q E h => ?_) (fun cdv A outer s H vs Q E p hot hz hr h => ?_)
  · obtain ⟨rfl, _⟩ := h
    rfl
  · obtain ⟨rfl, k⟩ := h
    have hf : ∃ vs, p.2.data = .fields vs := by
      obtain ⟨_, vs, e, _⟩ := hot
      exact ⟨vs, e⟩
    obtain ⟨a, oe⟩ := p
    refine ⟨_, PSs.nox (pss_cons (ps_set (i := 1) sc_law_kind.nd rfl (Or.inl rfl) (pe_lst (pa_cons (pe_callB (call_isP List.mem_cons_self kd.ec hz hf) (by rfl) B.isi (by decide +kernel) (pa_cons (pv 0) (pa_cons (pe_glob (v := .ref _) rfl eG.g0 rfl) pa_nil))) (pa_cons (pe_callB (call_isP List.mem_cons_self kd.ec hz hf) (by rfl) B.isi (by decide +kernel) (pa_cons (pv 0) (pa_cons (pe_glob (v := .ref _) rfl eG.g1 rfl) pa_nil))) (pa_cons (pe_callB (call_isP List.mem_cons_self kd.ec hz hf) (by rfl) B.isi (by decide +kernel) (pa_cons (pv 0) (pa_cons (pe_glob (v := .ref _) rfl eG.g2 rfl) pa_nil))) (pa_cons (pe_callB (call_isP List.mem_cons_self kd.ec hz hf) (by rfl) B.isi (by decide +kernel) (pa_cons (pv 0) (pa_cons (pe_glob (v := .ref _) rfl eG.g3 rfl) pa_nil))) pa_nil))))))
      (pss_one (ps_ret (pe_op op_cat (pv 1) (pe_lst (pa_cons (pe_callB (call_isP List.mem_cons_self kd.ec hz hf) (by rfl) B.isi (by decide +kernel) (pa_cons (pv 0) (pa_cons (pe_glob (v := .ref _) rfl eG.g4 rfl) pa_nil))) (pa_cons (pe_callB (call_isP List.mem_cons_self kd.ec hz hf) (by rfl) B.isi (by decide +kernel) (pa_cons (pv 0) (pa_cons (pe_bltn (v := .ty "ValueError") (by rfl) eG.gv (by decide +kernel) rfl) pa_nil))) pa_nil))))))), ?_⟩
    have cr : ∀ (q : Addr) (u : Value), RelV (.ref q) u → u = .ref q := fun _ _ e => e
    have ct : ∀ (u : Value), RelV (.ty "ValueError") u → u = .type "ValueError" := fun _ e => e
    refine ⟨_, rfl, .ref _, _, _, rfl, cr _, kd.k0, ?_⟩
    refine ⟨_, rfl, .ref _, _, _, rfl, cr _, kd.k1, ?_⟩
    refine ⟨_, rfl, .ref _, _, _, rfl, cr _, kd.k2, ?_⟩
    refine ⟨_, rfl, .ref _, _, _, rfl, cr _, kd.k3, ?_⟩
    refine ⟨(by show 4 ≤ sizeLine; decide), fun l1 h1 => ?_⟩
    refine ⟨_, rfl, _, rfl, .ref _, _, _, rfl, cr _, kd.k4, ?_⟩
    refine ⟨_, rfl, .ty "ValueError", _, _, rfl, ct, kd.kv, ?_⟩
    refine ⟨(by show 2 ≤ sizeLine; decide), fun l2 h2 => ?_⟩
    have e1 := (same_new (u := .lst [V.bl (j == 4), .bl true]) h2) _ _ (upd_same (H := H) (a := l1) (o := .lst [V.bl (j == 0), .bl (j == 1), .bl (j == 2), .bl (j == 3)]))
    refine ⟨l1, l2, _, _, rfl, rfl, e1, upd_same, (by show 4 + 2 ≤ sizeLine; decide), fun l3 h3 => ?_⟩
    exact k l3 _ (((same_new h1).trans (same_new h2)).trans (same_new h3)) (((same_new h1).trans (same_new h2)).free h3) upd_same

theorem sc_law_made : FnScope ["call", "one", "other", "found", "kinds", "e"] ["call", "one", "other"] (defScope s_law_made) := ⟨rfl, rfl, rfl, by decide +kernel, rfl, by decide +kernel, by decide +kernel⟩
theorem ok_law_made (D : Df K mg "_law_made" s_law_made) (B : Bt mg) (g_joined_X : Gd (CXN P w) P w K mg base 3 "joined" ["one", "other"] (spJoinedX K)) (g_law_kind : GdKind P w K mg base) (TF : FTx K mg) (iX : InitOkX P w K mg base) (gE : mg "EchoError" = some (.ref (He.ga K "EchoError"))) (xF : PySem.W.exmOne K (.ref (He.ga K "NoField")) (.ref (He.ga K "EchoError")) = some true) (kF : KindAt K (He.ga K "NoField") 0) (xT : PySem.W.exmOne K (.ref (He.ga K "TooMany")) (.ref (He.ga K "EchoError")) = some true) (kT : KindAt K (He.ga K "TooMany") 3) : Gd CX0 P w K mg base 4 "_law_made" ["call", "one", "other"] (spMade K) := by
  obtain ⟨fX, fdX, FX, MX, bX⟩ := iX
  refine gd_of D sc_law_made (fun _ _ _ _ _ _ us hl => match us, hl with | [_, _, _], _ => rfl) (fun vs H Q E h => ?_) (fun f cdv A outer s H vs Q E hr h => ?_)
  · rcases h with ⟨l, ws, rfl, _⟩ | ⟨f, l, g, m, ws, us, rfl, _⟩
    · rfl
    · rfl
  · refine ⟨_, PSs.nox (pss_cons (ps_set (i := 3) sc_law_made.nd rfl (Or.inl rfl) pe_non)
      (pss_cons (ps_set (i := 4) sc_law_made.nd rfl (Or.inl rfl) (pe_lst pa_nil))
      (pss_cons (L2N.ps_try_as (i := 5) rfl rfl sc_law_made.nd rfl rfl ⟨rfl, by decide, .inl gE⟩ takes_noneN (fun W pn xe tk _ => (pss_one (ps_if (pt_cmpR op_eq (pv 0) pe_int (nomark _)) (pss_one (ps_set (i := 3) sc_law_made.nd rfl (Or.inl rfl) (pe_makeS MX FX (hr.mono (by decide)) tk rfl TF.gF bX (pa_cons (pv 1) pa_nil)))) (pss_one (ps_set (i := 3) sc_law_made.nd rfl (Or.inl rfl) (pe_gdS g_joined_X hr tk (pa_cons (pv 1) (pa_cons (pv 2) pa_nil)))))))) (fun a oe cls d pn hz hf => (pss_one (ps_set (i := 4) sc_law_made.nd rfl (Or.inl rfl) (pe_kind g_law_kind hr hz hf (pa_cons (pv 5) pa_nil))))))
      (pss_one (ps_ret (pe_tup (pa_cons (pv 3) (pa_cons (pv 4) pa_nil)))))))), ?_⟩
    rcases h with ⟨l, ws, rfl, hl, hn, k1, k0⟩ | ⟨f, l, g, m, ws, us, rfl, hF, hG, h1, hw8, hu8, hu, hv, k1, k0⟩
    · refine ⟨Nat.zero_le _, fun l0 h0 => ?_⟩
      have s0 := same_new (u := .lst []) h0
      have r0 : RL K (upd H l0 (.lst [])) l0 [] := RL.new h0 Rats.nil
      refine ⟨_, rfl, rfl, true, congrArg V.bl (decide_eq_true rfl), ifT rfl ?_⟩
      refine ⟨_, rfl, nI (make_fieldX (hl.same s0) hn (fun ok x m H2 nx nm s2 F2 => ?_) (fun no H2 s2 => ?_))⟩
      · refine ⟨_, rfl, _, rfl, (by show 2 ≤ sizeLine; decide), fun t ht => ?_⟩
        have st := same_new (u := .tup [.ref x, .ref l0]) ht
        exact k1 ok t x m l0 _ ((s0.trans s2).trans st) upd_same (F2.same st) (s0.free nx) (s0.free nm) ((r0.same s2).same st)
      · refine ⟨true, xF, (fun _ a ha => ?_), (fun q => nomatch q)⟩
        refine ⟨He.ga K "NoField", 0, rfl, rfl, kF, _, rfl, rfl, fun l2 H3 s3 n3 e3 => ?_⟩
        refine ⟨_, rfl, _, rfl, (by show 2 ≤ sizeLine; decide), fun t ht => ?_⟩
        have st := same_new (u := .tup [.non, .ref l2]) ht
        exact k0 no t l2 _ (((s0.trans s2).trans s3).trans st) upd_same (st _ _ e3)
    · refine ⟨Nat.zero_le _, fun l0 h0 => ?_⟩
      have s0 := same_new (u := .lst []) h0
      have r0 : RL K (upd H l0 (.lst [])) l0 [] := RL.new h0 Rats.nil
      refine ⟨_, rfl, rfl, false, congrArg V.bl (decide_eq_false (by decide)), ifF rfl ?_⟩
      refine ⟨_, rfl, _, rfl, f, l, g, m, ws, us, rfl, hF.same s0, hG.same s0, h1, hw8, hu8, hu, hv, fun h8 x r H2 nx nr s2 F2 => ?_, fun h8 H2 s2 => ?_⟩
      · refine ⟨_, rfl, _, rfl, (by show 2 ≤ sizeLine; decide), fun t ht => ?_⟩
        have st := same_new (u := .tup [.ref x, .ref l0]) ht
        exact k1 h8 t x r l0 _ ((s0.trans s2).trans st) upd_same (F2.same st) ((r0.same s2).same st)
      · refine ⟨true, xT, (fun _ a ha => ?_), (fun q => nomatch q)⟩
        refine ⟨He.ga K "TooMany", 3, rfl, rfl, kT, _, rfl, rfl, fun l2 H3 s3 n3 e3 => ?_⟩
        refine ⟨_, rfl, _, rfl, (by show 2 ≤ sizeLine; decide), fun t ht => ?_⟩
        have st := same_new (u := .tup [.non, .ref l2]) ht
        exact k0 h8 t l2 _ (((s0.trans s2).trans s3).trans st) upd_same (st _ _ e3)

theorem sc_law_one : FnScope ["k", "j"] ["k"] (defScope s_law_one) := ⟨rfl, rfl, rfl, by decide +kernel, rfl, by decide +kernel, by decide +kernel⟩
theorem ok_law_one (D : Df K mg "_law_one" s_law_one) (B : Bt mg) : Gd CX0 P w K mg base 1 "_law_one" ["k"] (spOneOf) := by
  refine gd_of D sc_law_one (fun _ _ _ _ _ _ us hl => match us, hl with | [_], _ => rfl) (fun vs H Q E h => ?_) (fun f cdv A outer s H vs Q E hr h => ?_)
  · obtain ⟨j, rfl, _⟩ := h
    rfl
  · obtain ⟨j, rfl, k⟩ := h
    refine ⟨_, PSs.nox (pss_one (ps_ret (pe_op op_cat (pe_lc (own := [("j", 1)]) (g := (gName 1)) (tt := tYes) rfl sc_law_one.nd (pi_range1 (by rfl) B.range (pa_cons pe_int pa_nil)) (blkOk_by (own := [("j", 1)]) (N := ["k", "j"]) (sc := defScope s_law_one) (by decide +kernel)) (fun _ _ _ _ _ => (pg_name (i := 1) sc_law_one.nd rfl (Or.inl rfl))) (fun _ _ _ _ _ => pts_nil) (fun _ _ _ _ _ => (pe_cmpR op_eq (pv 0) (pv 1) (nomark _)))) (pe_lst (pa_cons pe_bl pa_nil))))), ?_⟩
    refine ⟨_, rfl, by decide, by decide, fun D hD => ?_⟩
    refine lc_range (lo := 0) (n := 5) (fun i H' => Same H H' ∧ H' D = some (.lst ((List.range i).map fun t => V.bl (j == t)))) ⟨same_new hD, upd_same⟩ ?_ ?_
    · rintro i H1 hi ⟨s1, e1⟩
      refine ⟨rfl, yesQ (ifT rfl ?_)⟩
      refine ⟨_, rfl, _, rfl, rfl, _, e1, small1000 (by rw [List.length_map, List.length_range]; omega), same_but s1 hD (fun b hb => upd_ne hb), ?_⟩
      have ed : decide (V.int (j : Int) = V.int (0 + (i : Int))) = (j == i) := by
        rw [dec_int, Int.zero_add]
        by_cases q : j = i
        · subst q
          rw [beq_self_eq_true, beq_self_eq_true]
        · have q2 : (j : Int) ≠ (i : Int) := fun z => q (Int.ofNat.inj z)
          rw [beq_eq_false_iff_ne.mpr q, beq_eq_false_iff_ne.mpr q2]
      rw [upd_same, ed, List.range_succ, List.map_append]
      rfl
    · rintro H1 ⟨s1, e1⟩
      refine ⟨(by show 1 ≤ sizeLine; decide), fun l2 h2 => ?_⟩
      refine ⟨D, l2, _, _, rfl, rfl, (same_new h2) _ _ e1, upd_same, (by show 5 + 1 ≤ sizeLine; decide), fun l3 h3 => ?_⟩
      exact k l3 _ ((s1.trans (same_new h2)).trans (same_new h3)) ((s1.trans (same_new h2)).free h3) upd_same

theorem sc_law_whole : FnScope ["found"] ["found"] (defScope s_law_whole) := ⟨rfl, rfl, rfl, by decide +kernel, rfl, by decide +kernel, by decide +kernel⟩
theorem ok_law_whole (D : Df K mg "_law_whole" s_law_whole) (B : Bt mg) : Gd CX0 P w K mg base 1 "_law_whole" ["found"] (spWhole) := by
  refine gd_of D sc_law_whole (fun _ _ _ _ _ _ us hl => match us, hl with | [_], _ => rfl) (fun vs H Q E h => ?_) (fun f cdv A outer s H vs Q E hr h => ?_)
  · obtain ⟨i, rfl, _⟩ := h
    rfl
  · obtain ⟨i, rfl, q⟩ := h
    refine ⟨_, PSs.nox (pss_one (ps_ret (pe_and (pe_callB call_isi (by rfl) B.isi (by decide +kernel) (pa_cons (pv 0) (pa_cons (pe_bltn (v := .ty "int") (by rfl) B.int (by decide +kernel) rfl) pa_nil))) (pe_one (pe_not (pe_callB call_isi (by rfl) B.isi (by decide +kernel) (pa_cons (pv 0) (pa_cons (pe_bltn (v := .ty "bool") (by rfl) B.bool (by decide +kernel) rfl) pa_nil)))))))), ?_⟩
    refine ⟨_, rfl, _, _, _, _, true, rfl, .ty _, .base (.int i), kit_ty (by decide +kernel), true, rfl, ifT rfl ?_⟩
    exact ⟨_, rfl, _, _, _, _, false, rfl, .ty _, .base (.int i), kit_ty (by decide +kernel), false, rfl, q⟩

theorem sc_law_parts : FnScope ["found", "due", "k", "part"] ["found", "due"] (defScope s_law_parts) := ⟨rfl, rfl, rfl, by decide +kernel, rfl, by decide +kernel, by decide +kernel⟩
theorem ok_law_parts (D : Df K mg "_law_parts" s_law_parts) (B : Bt mg) (g_law_whole : Gd CX0 P w K mg base 1 "_law_whole" ["found"] (spWhole)) : Gd CX0 P w K mg base 2 "_law_parts" ["found", "due"] (spParts K) := by
  refine gd_of D sc_law_parts (fun _ _ _ _ _ _ us hl => match us, hl with | [_, _], _ => rfl) (fun vs H Q E h => ?_) (fun f cdv A outer s H vs Q E hr h => ?_)
  · obtain ⟨l, m, qs, ps, rfl, _⟩ := h
    rfl
  · obtain ⟨l, m, qs, ps, rfl, hl, hm, hn, k⟩ := h
    refine ⟨_, PSs.nox (pss_cons (ps_if (PW.pt (pw_or (pt_not (pt_val (pe_callB call_isi (by rfl) B.isi (by decide +kernel) (pa_cons (pv 0) (pa_cons (pe_bltn (v := .ty "list") (by rfl) B.list (by decide +kernel) rfl) pa_nil))))) (pw_or1 (pt_cmpR op_ne (pe_callB call_len_seq (by rfl) B.len (by decide +kernel) (pa_cons (pv 0) pa_nil)) (pe_callB call_len_seq (by rfl) B.len (by decide +kernel) (pa_cons (pv 1) pa_nil)) (nomark _))))) (pss_one (ps_ret pe_bl)) pss_nil)
      (pss_cons (ps_for PassesOwn.never rfl (pi_range1 (by rfl) B.range (pa_cons (pe_callB call_len_seq (by rfl) B.len (by decide +kernel) (pa_cons (pv 1) pa_nil)) pa_nil)) (pg_name (i := 2) sc_law_parts.nd rfl (Or.inl rfl)) (pss_cons (ps_set (i := 3) sc_law_parts.nd rfl (Or.inl rfl) (pe_ix ix_list (pv 0) (pv 2) (fun _ _ => rfl))) (pss_cons (ps_if (PW.pt (pw_or (pt_not (pt_val (pe_callB call_isi (by rfl) B.isi (by decide +kernel) (pa_cons (pv 3) (pa_cons (pe_bltn (v := .ty "tuple") (by rfl) B.tuple (by decide +kernel) rfl) pa_nil))))) (pw_or (pt_cmpR op_ne (pe_callB call_len_seq (by rfl) B.len (by decide +kernel) (pa_cons (pv 3) pa_nil)) pe_int (nomark _)) (pw_or (pt_not (pt_val (pe_gd g_law_whole hr (pa_cons (pe_num 3) pa_nil)))) (pw_or1 (pt_not (pt_val (pe_gd g_law_whole hr (pa_cons (pe_den 3) pa_nil))))))))) (pss_one (ps_ret pe_bl)) pss_nil) (pss_one (ps_if (pt_cmpR (op_neD hr.units) (pv 3) (pe_ix ix_list (pv 1) (pv 2) (fun _ _ => rfl)) (nomark _)) (pss_one (ps_ret pe_bl)) pss_nil)))))
      (pss_one (ps_ret pe_bl)))), ?_⟩
    obtain ⟨xs, ex, rx⟩ := id hl
    obtain ⟨ys, ey, ry⟩ := id hm
    refine ⟨_, rfl, _, _, _, _, true, rfl, .ty _, .base (.lst ex), kit_ty (by decide +kernel), true, rfl, ifF rfl ?_⟩
    refine ⟨_, rfl, l, xs, rfl, .inl (SqL.of ex), _, rfl, m, ys, rfl, .inl (SqL.of ey), rfl, _, rfl, ?_⟩
    rw [rx.1, ry.1]
    refine ifB (fun hne => ?_) (fun hne => ?_)
    · have e : ¬ qs = ps := fun z => by
        subst z
        simp at hne
      rw [decide_eq_false e] at k
      exact k
    · have el : qs.length = ps.length := by
        have h1 : decide (V.int (qs.length : Int) = V.int (ps.length : Int)) = true := by simpa using hne
        have h2 := V.int.inj (of_decide_eq_true h1)
        omega
      refine ⟨_, rfl, m, ys, rfl, .inl (SqL.of ey), (ys.length : Int), rfl, by rw [ry.1]; omega, by rw [ry.1]; omega, ?_⟩
      rw [ry.1, Int.toNat_natCast]
      refine for_range (lo := 0) (n := ps.length) (fun i σ H' => H' = H ∧ qs.take i = ps.take i ∧ ∃ kv pv : Option V, σ = [some (.ref l), some (.ref m), kv, pv]) ⟨rfl, by rw [List.take_zero, List.take_zero], none, none, rfl⟩ ?_ ?_
      · rintro i σ H' hi ⟨rfl, et, kv, pv', rfl⟩
        have g1 : qs[i]? = some (qs[i]'(by omega)) := List.getElem?_eq_getElem (by omega)
        have g2 : ps[i]? = some ps[i] := List.getElem?_eq_getElem hi
        refine ⟨_, rfl, _, rfl, ixr hl g1 (by omega) fun v hv => ?_⟩
        obtain ⟨a, rfl, ha⟩ := id hv
        refine ⟨_, rfl, _, _, _, _, true, rfl, .ty _, tyx_tup ha, kit_ty (by decide +kernel), true, rfl, ifF rfl ?_⟩
        refine ⟨_, rfl, a, _, rfl, .inr ha, rfl, _, rfl, ifF rfl ?_⟩
        refine ⟨_, _, rfl, hv, _, rfl, true, rfl, ifF rfl ?_⟩
        refine ⟨_, _, rfl, hv, _, rfl, true, rfl, ifF rfl ?_⟩
        refine ⟨_, rfl, _, rfl, _, rfl, ixr hm g2 (by omega) fun u hu => ?_⟩
        refine ⟨_, _, hv.dp, hu.dp, sh_rat _, sh_rat _, _, rfl, ?_⟩
        rw [eqv_rat]
        refine ifB (fun hne => ?_) (fun hne => ?_)
        · have e : ¬ qs = ps := fun z => by
            subst z
            simp at hne
          rw [decide_eq_false e] at k
          exact k
        · have e : qs[i]'(by omega) = ps[i] := by simpa using hne
          refine ⟨rfl, ?_, _, _, rfl⟩
          rw [List.take_succ, List.take_succ, g1, g2, et, e]
      · rintro σ H' ⟨rfl, et, kv, pv', rfl⟩
        have e : qs = ps := by
          rw [List.take_length] at et
          rw [← et, ← el, List.take_length]
        rw [decide_eq_true e] at k
        exact k

theorem sc_law_sides : FnScope ["script", "first", "most", "k"] ["script", "first", "most"] (defScope s_law_sides) := ⟨rfl, rfl, rfl, by decide +kernel, rfl, by decide +kernel, by decide +kernel⟩
theorem ok_law_sides (D : Df K mg "_law_sides" s_law_sides) (B : Bt mg) (g_law_side : Gd CX0 P w K mg base 2 "_law_side" ["cell"] (spSide K)) (g_law_cell_at : Gd CX0 P w K mg base 1 "_law_cell_at" ["script", "k"] (spCellAt K)) : Gd CX0 P w K mg base 3 "_law_sides" ["script", "first", "most"] (spSides K) := by
  refine gd_of D sc_law_sides (fun _ _ _ _ _ _ us hl => match us, hl with | [_, _, _], _ => rfl) (fun vs H Q E h => ?_) (fun f cdv A outer s H vs Q E hr h => ?_)
  · obtain ⟨a, ns, fi, mo, rfl, _⟩ := h
    rfl
  · obtain ⟨a, ns, fi, mo, rfl, hS, hm0, hm1, k⟩ := h
    refine ⟨_, PSs.nox (pss_one (ps_ret (pe_lc (own := [("k", 3)]) (g := (gName 3)) (tt := tYes) rfl sc_law_sides.nd (pi_range1 (by rfl) B.range (pa_cons (pe_op op_add pe_int (pe_op op_mod (pe_gd g_law_cell_at hr (pa_cons (pv 0) (pa_cons (pv 1) pa_nil))) (pv 2))) pa_nil)) (blkOk_by (own := [("k", 3)]) (N := ["script", "first", "most", "k"]) (sc := defScope s_law_sides) (by decide +kernel)) (fun _ _ _ _ _ => (pg_name (i := 3) sc_law_sides.nd rfl (Or.inl rfl))) (fun _ _ _ _ _ => pts_nil) (fun _ _ _ _ _ => (pe_gd g_law_side hr (pa_cons (pe_gd g_law_cell_at hr (pa_cons (pv 0) (pa_cons (pe_op op_add (pe_op op_add (pv 1) pe_int) (pv 3)) pa_nil))) pa_nil)))))), ?_⟩
    have c0 : 0 ≤ cellAt ns fi % mo := Int.emod_nonneg _ (by omega)
    have c1 : cellAt ns fi % mo < mo := Int.emod_lt_of_pos _ hm0
    refine ⟨_, rfl, _, rfl, a, ns, fi, rfl, hS, _, rfl, _, _, rfl, rfl, hm0, _, _, rfl, rfl, _, rfl, by omega, by omega, fun D hD => ?_⟩
    refine lc_range (lo := 0) (n := (1 + cellAt ns fi % mo).toNat) (fun i H' => Same H H' ∧ RL K H' D ((List.range i).map fun k => sideOf (cellAt ns (fi + 1 + k)))) ⟨same_new hD, RL.new hD Rats.nil⟩ ?_ ?_
    · rintro i H1 hi ⟨s1, r1⟩
      refine ⟨rfl, yesQ (ifT rfl ?_)⟩
      refine ⟨_, rfl, _, rfl, _, _, rfl, rfl, _, rfl, _, _, rfl, rfl, a, ns, fi + 1 + i, ?_, s1.seq hS, _, rfl, fun r H2 s2 hr => ?_⟩
      · show [V.ref a, V.int ((fi : Int) + 1 + (0 + (i : Int)))] = _
        rw [show (fi : Int) + 1 + (0 + (i : Int)) = ((fi + 1 + i : Nat) : Int) by omega]
      · obtain ⟨acc, ea, ra⟩ := r1.same s2
        refine ⟨acc, ea, small1000 (by rw [ra.1, List.length_map, List.length_range]; omega), same_but (s1.trans s2) hD (fun b hb => upd_ne hb), ?_⟩
        rw [List.range_succ, List.map_append]
        exact RL.upd ea (ra.push hr)
    · rintro H1 ⟨s1, r1⟩
      exact k D H1 s1 hD r1

theorem sc_turned : FnScope ["field"] ["field"] (defScope s_turned) := ⟨rfl, rfl, rfl, by decide +kernel, rfl, by decide +kernel, by decide +kernel⟩
theorem ok_turned (D : Df K mg "turned" s_turned) (B : Bt mg) (TF : FTx K mg) (gI : InitOk P w K mg base) (gW : WallsOk P w K mg base) : Gd CX0 P w K mg base 3 "turned" ["field"] (spTurned K) := by
  obtain ⟨fI, fdI, FI, MI, bI⟩ := gI
  obtain ⟨fW, fdW, FW, MW, bW⟩ := gW
  refine gd_of D sc_turned (fun _ _ _ _ _ _ us hl => match us, hl with | [_], _ => rfl) (fun vs H Q E h => ?_) (fun f cdv A outer s H vs Q E hr h => ?_)
  · obtain ⟨f, l, ws, rfl, _⟩ := h
    rfl
  · obtain ⟨f, l, ws, rfl, hF, h1, h8, hu, k⟩ := h
    refine ⟨_, PSs.nox (pss_one (ps_ret (pe_make MI FI (hr.mono (by decide)) rfl TF.gF bI .nil pass0 (pa_cons (pe_listRev rfl (by rfl) B.list (by rfl) B.rev (pe_meth0 (pv 0) TF.cl MW FW (hr.mono (by decide)) bW .nil pass0)) pa_nil)))), ?_⟩
    refine ⟨_, rfl, ask_walls hF (by omega) fun w1 H1 nw1 s1 rw1 => ?_⟩
    obtain ⟨xs, ex, rx⟩ := id rw1
    refine ⟨w1, xs, rfl, SqL.of ex, fun q hq => ?_⟩
    refine nI (make_field (RL.new hq rx.rev) (by rw [List.length_reverse]; exact h1) (by rw [List.length_reverse]; exact h8) hu.rev fun p m H3 np nm s3 F3 => ?_)
    exact k p m H3 ((s1.trans (same_new hq)).free np) ((s1.trans (same_new hq)).trans s3) F3

theorem sc_law : FnScope ["script", "sides", "spoil", "bottom", "handed", "made", "wrong", "part", "found", "other", "both", "k"] ["script"] (defScope s_law) := ⟨rfl, rfl, rfl, by decide +kernel, rfl, by decide +kernel, by decide +kernel⟩
theorem ok_law (B : Bt mg) (g_law_side : Gd CX0 P w K mg base 2 "_law_side" ["cell"] (spSide K)) (g_law_cell_at : Gd CX0 P w K mg base 1 "_law_cell_at" ["script", "k"] (spCellAt K)) (g_law_low : Gd CX0 P w K mg base 1 "_law_low" ["top", "bottom"] (spLow K)) (g_law_made : Gd CX0 P w K mg base 4 "_law_made" ["call", "one", "other"] (spMade K)) (g_law_one : Gd CX0 P w K mg base 1 "_law_one" ["k"] (spOneOf)) (g_law_parts : Gd CX0 P w K mg base 2 "_law_parts" ["found", "due"] (spParts K)) (g_law_sides : Gd CX0 P w K mg base 3 "_law_sides" ["script", "first", "most"] (spSides K)) (g_turned : Gd CX0 P w K mg base 3 "turned" ["field"] (spTurned K)) (TF : FTx K mg) (gI : InitOk P w K mg base) (gW : WallsOk P w K mg base) : Gf CX0 P w K mg base 8 "law" s_law ["script"] (spLaw K) := by
  obtain ⟨fI, fdI, FI, MI, bI⟩ := gI
  obtain ⟨fW, fdW, FW, MW, bW⟩ := gW
  refine gf_of sc_law (fun vs H Q E h => ?_) (fun f cdv A outer s H vs Q E hr h => ?_)
  · obtain ⟨a, ns, rfl, _⟩ := h
    rfl
  · obtain ⟨a, ns, rfl, hS, hn, k⟩ := h
    refine ⟨_, PSs.nox (pss_cons (ps_setLc (i := 1) (own := [("k", 11)]) (g := (gName 11)) (tt := tYes) rfl sc_law.nd rfl rfl (sw_true rfl rfl rfl (by decide +kernel)) (pi_range1 (by rfl) B.range (pa_cons (pe_op op_mod (pe_gd g_law_cell_at hr (pa_cons (pv 0) (pa_cons pe_int pa_nil))) pe_int) pa_nil)) (blkOk_by (own := [("k", 11)]) (N := ["script", "sides", "spoil", "bottom", "handed", "made", "wrong", "part", "found", "other", "both", "k"]) (sc := defScope s_law) (by decide +kernel)) (fun _ _ _ _ _ => (pg_name (i := 11) sc_law.nd rfl (Or.inl rfl))) (fun _ _ _ _ _ => pts_nil) (fun _ _ _ _ _ => (pe_gd g_law_side hr (pa_cons (pe_gd g_law_cell_at hr (pa_cons (pv 0) (pa_cons (pe_op op_add pe_int (pv 11)) pa_nil))) pa_nil))))
      (C8.pss_cut (ps_if (PW.pt (pw_and (pt_cmpR (op_neD hr.units) (pv 1) (pe_lst pa_nil) (nomark _)) (pw_and1 (pt_cmpR op_eq (pe_op op_mod (pe_gd g_law_cell_at hr (pa_cons (pv 0) (pa_cons pe_int pa_nil))) pe_int) pe_int (nomark _))))) (pss_cons (ps_set (i := 2) sc_law.nd rfl (Or.inl rfl) (pe_ix ix_list (pe_lst (pa_cons (pe_tup (pa_cons pe_int (pa_cons pe_int pa_nil))) (pa_cons (pe_tup (pa_cons (pe_un un_neg pe_int) (pa_cons pe_int pa_nil))) (pa_cons (pe_tup (pa_cons pe_int (pa_cons pe_int pa_nil))) (pa_cons (pe_tup (pa_cons pe_int (pa_cons pe_int pa_nil))) (pa_cons (pe_tup (pa_cons (pe_un un_neg pe_int) (pa_cons pe_int pa_nil))) pa_nil)))))) (pe_op op_mod (pe_op op_fdiv (pe_gd g_law_cell_at hr (pa_cons (pv 0) (pa_cons pe_int pa_nil))) pe_int) pe_int) (fun _ _ => rfl))) (pss_one (ps_asg (pv 2) (pg_sub (pv 1) (pe_op op_mod (pe_op op_fdiv (pe_gd g_law_cell_at hr (pa_cons (pv 0) (pa_cons pe_int pa_nil))) pe_int) (pe_callB call_len_seq (by rfl) B.len (by decide +kernel) (pa_cons (pv 1) pa_nil))) set_list)))) pss_nil)
      (C8.pss_cut (ps_if (PW.pt (pw_and (pt_cmpR (op_neD hr.units) (pv 1) (pe_lst pa_nil) (nomark _)) (pw_and1 (pt_cmpR op_eq (pe_op op_mod (pe_gd g_law_cell_at hr (pa_cons (pv 0) (pa_cons pe_int pa_nil))) pe_int) pe_int (nomark _))))) (pss_cons (ps_set (i := 3) sc_law.nd rfl (Or.inl rfl) (pe_op op_add pe_int (pe_op op_mod (pe_op op_fdiv (pe_gd g_law_cell_at hr (pa_cons (pv 0) (pa_cons pe_int pa_nil))) pe_int) pe_int))) (pss_one (ps_asg (pe_gd g_law_low hr (pa_cons (pe_op op_mod (pe_gd g_law_cell_at hr (pa_cons (pv 0) (pa_cons pe_int pa_nil))) (pe_op op_add (pv 3) pe_int)) (pa_cons (pv 3) pa_nil))) (pg_sub (pv 1) (pe_un un_neg pe_int) set_list)))) pss_nil)
      (pss_cons (ps_set (i := 4) sc_law.nd rfl (Or.inl rfl) (pe_callTy call_list_of (by rfl) B.list (by decide +kernel) (pa_cons (pv 1) pa_nil)))
      (C8.pss_cut (ps_set (i := 5) sc_law.nd rfl (Or.inl rfl) (pe_gd g_law_made hr (pa_cons pe_int (pa_cons (pv 4) (pa_cons pe_non pa_nil)))))
      (pss_cons (ps_if (pt_cmpR (op_neD hr.units) (pv 4) (pv 1) (nomark _)) (pss_one (ps_ret pe_bl)) pss_nil)
      (C8.pss_cut (ps_set (i := 6) sc_law.nd rfl (Or.inl rfl) (pe_not (pe_chain op_le op_le pe_int (pe_callB call_len_seq (by rfl) B.len (by decide +kernel) (pa_cons (pv 1) pa_nil)) pe_int)))
      (C8.pss_cut (ps_for PassesOwn.never rfl (pi_list (pv 1)) (pg_name (i := 7) sc_law.nd rfl (Or.inl rfl)) (pss_one (ps_if (pt_not (pt_chain op_le op_le pe_int (pe_num 7) (pe_den 7))) (pss_one (ps_set (i := 6) sc_law.nd rfl (Or.inl rfl) pe_bl)) pss_nil)))
      (pss_cons (ps_if (pt_val (pv 6)) (pss_one (ps_ret (pe_cmpR (op_eqD hr.units) (pv 5) (pe_tup (pa_cons pe_non (pa_cons (pe_gd g_law_one hr (pa_cons pe_int pa_nil)) pa_nil))) (nomark _)))) pss_nil)
      (pss_cons (ps_expr (pe_bm PySem.F.plainAttrs_list PySem.F.slot_list_append PySem.F.type_list_append mt_append (pv 4) (pa_cons (pe_tup (pa_cons pe_int (pa_cons pe_int pa_nil))) pa_nil)))
      (pss_cons (ps_asg (pe_tup (pa_cons pe_int (pa_cons pe_int pa_nil))) (pg_sub (pv 4) pe_int set_list))
      (pss_cons (ps_set (i := 8) sc_law.nd rfl (Or.inl rfl) (pe_meth0 (pe_ix ix_tup (pv 5) pe_int (fun _ _ => rfl)) TF.cl MW FW (hr.mono (by decide)) bW .nil pass0))
      (pss_cons (ps_if (PW.pt (pw_or (pt_cmpR (op_neD hr.units) (pe_ix ix_tup (pv 5) pe_int (fun _ _ => rfl)) (pe_lst pa_nil) (nomark _)) (pw_or1 (pt_not (pt_val (pe_gd g_law_parts hr (pa_cons (pv 8) (pa_cons (pv 1) pa_nil)))))))) (pss_one (ps_ret pe_bl)) pss_nil)
      (pss_cons (ps_expr (pe_bm PySem.F.plainAttrs_list PySem.F.slot_list_append PySem.F.type_list_append mt_append (pv 8) (pa_cons (pe_tup (pa_cons pe_int (pa_cons pe_int pa_nil))) pa_nil)))
      (pss_cons (ps_if (PW.pt (pw_or (pt_not (pt_val (pe_gd g_law_parts hr (pa_cons (pe_meth0 (pe_ix ix_tup (pv 5) pe_int (fun _ _ => rfl)) TF.cl MW FW (hr.mono (by decide)) bW .nil pass0) (pa_cons (pv 1) pa_nil))))) (pw_or1 (pt_not (pt_val (pe_gd g_law_parts hr (pa_cons (pe_meth0 (pe_gd g_turned hr (pa_cons (pe_ix ix_tup (pv 5) pe_int (fun _ _ => rfl)) pa_nil)) TF.cl MW FW (hr.mono (by decide)) bW .nil pass0) (pa_cons (pe_listRev rfl (by rfl) B.list (by rfl) B.rev (pv 1)) pa_nil)))))))) (pss_one (ps_ret pe_bl)) pss_nil)
      (pss_cons (ps_set (i := 9) sc_law.nd rfl (Or.inl rfl) (pe_gd g_law_sides hr (pa_cons (pv 0) (pa_cons pe_int (pa_cons pe_int pa_nil)))))
      (pss_cons (ps_set (i := 10) sc_law.nd rfl (Or.inl rfl) (pe_gd g_law_made hr (pa_cons pe_int (pa_cons (pe_ix ix_tup (pv 5) pe_int (fun _ _ => rfl)) (pa_cons (pe_make MI FI (hr.mono (by decide)) rfl TF.gF bI .nil pass0 (pa_cons (pe_callTy call_list_of (by rfl) B.list (by decide +kernel) (pa_cons (pv 9) pa_nil)) pa_nil)) pa_nil)))))
      (pss_cons (ps_if (pt_cmpR op_gt (pe_op op_add (pe_callB call_len_seq (by rfl) B.len (by decide +kernel) (pa_cons (pv 1) pa_nil)) (pe_callB call_len_seq (by rfl) B.len (by decide +kernel) (pa_cons (pv 9) pa_nil))) pe_int (nomark _)) (pss_one (ps_ret (pe_cmpR (op_eqD hr.units) (pv 10) (pe_tup (pa_cons pe_non (pa_cons (pe_gd g_law_one hr (pa_cons pe_int pa_nil)) pa_nil))) (nomark _)))) pss_nil)
      (pss_one (ps_ret (pe_and (pe_cmpR (op_eqD hr.units) (pe_ix ix_tup (pv 10) pe_int (fun _ _ => rfl)) (pe_lst pa_nil) (nomark _)) (pe_and (pe_gd g_law_parts hr (pa_cons (pe_meth0 (pe_ix ix_tup (pv 10) pe_int (fun _ _ => rfl)) TF.cl MW FW (hr.mono (by decide)) bW .nil pass0) (pa_cons (pe_op op_cat (pv 1) (pv 9)) pa_nil))) (pe_one (pe_gd g_law_parts hr (pa_cons (pe_meth0 (pe_ix ix_tup (pv 5) pe_int (fun _ _ => rfl)) TF.cl MW FW (hr.mono (by decide)) bW .nil pass0) (pa_cons (pv 1) pa_nil)))))))))))))))))))))))))), ?_⟩
    -- sides
    have c0 : 0 ≤ cellAt ns 0 % 12 := Int.emod_nonneg _ (by decide)
    have c1 : cellAt ns 0 % 12 < 12 := Int.emod_lt_of_pos _ (by decide)
    refine ⟨_, rfl, a, ns, 0, rfl, hS.1, _, _, rfl, rfl, (by show (0 : Int) < 12; decide), _, rfl, by omega, by omega, fun l hl => ?_⟩
    refine lc_range (lo := 0) (n := (cellAt ns 0 % 12).toNat) (fun i H' => Same H H' ∧ RL K H' l ((List.range i).map fun k => sideOf (cellAt ns (4 + k)))) ⟨same_new hl, RL.new hl Rats.nil⟩ ?_ ?_
    · rintro i H1 hi ⟨s1, r1⟩
      refine ⟨rfl, yesQ (ifT rfl ?_)⟩
      refine ⟨_, rfl, _, rfl, _, _, rfl, rfl, a, ns, 4 + i, ?_, s1.seq hS.1, _, rfl, fun r H2 s2 hr => ?_⟩
      · show [V.ref a, V.int (4 + (0 + (i : Int)))] = _
        rw [show (4 : Int) + (0 + (i : Int)) = ((4 + i : Nat) : Int) by omega]
      · obtain ⟨acc, ea, ra⟩ := r1.same s2
        refine ⟨acc, ea, small1000 (by rw [ra.1, List.length_map, List.length_range]; omega), same_but (s1.trans s2) hl (fun b hb => upd_ne hb), ?_⟩
        rw [List.range_succ, List.map_append]
        exact RL.upd ea (ra.push hr)
    rintro H1 ⟨s1, r1⟩
    have hlen : ((List.range (cellAt ns 0 % 12).toNat).map fun k => sideOf (cellAt ns (4 + k))).length ≤ 11 := by
      rw [List.length_map, List.length_range]
      omega
    generalize ((List.range (cellAt ns 0 % 12).toNat).map fun k => sideOf (cellAt ns (4 + k))) = ws at r1 hlen
    have hS1 := s1.seq hS.1
    -- a part above one or below nought
    refine ⟨fun σ' H' => ∃ (us : List Rat) (sv : Option V), σ' = [some (.ref a), some (.ref l), sv, none, none, none, none, none, none, none, none, none] ∧ RL K H' l us ∧ us.length ≤ 11 ∧ Kt H H', ?_, ?_⟩
    · refine ⟨_, rfl, Nat.zero_le _, fun te hte => ?_⟩
      have se := same_new (u := .lst []) hte
      have ree : RL K (upd H1 te (.lst [])) te [] := RL.new hte Rats.nil
      refine ⟨_, _, (r1.same se).dp, ree.dp, sh_rats _, sh_rats _, _, rfl, ?_⟩
      rw [eqv_rats]
      have r2 := r1.same se
      have hS2 := se.seq hS1
      refine ifB (fun hne => ?_) (fun hne => ?_)
      · have ne : ws ≠ [] := by simpa using hne
        have pos : 0 < ws.length := List.length_pos_iff.mpr ne
        refine ⟨_, rfl, a, ns, 1, rfl, hS2, _, _, rfl, rfl, (by show (0 : Int) < 4; decide), rfl, _, rfl, ?_⟩
        refine ifB (fun hq => ?_) (fun hq => ?_)
        · refine ⟨(by show 2 ≤ sizeLine; decide), fun t1 ht1 => ?_⟩
          refine ⟨_, rfl, (by show 2 ≤ sizeLine; decide), fun t2 ht2 => ⟨(by show 2 ≤ sizeLine; decide), fun t3 ht3 => ⟨(by show 2 ≤ sizeLine; decide), fun t4 ht4 => ⟨_, rfl, (by show 2 ≤ sizeLine; decide), fun t5 ht5 => ⟨(by show 5 ≤ sizeLine; decide), fun tl htl => ?_⟩⟩⟩⟩⟩
          have e1 := same_new (u := .tup [.int 3, .int 2]) ht1
          have e2 := same_new (u := .tup [.int (-1), .int 2]) ht2
          have e3 := same_new (u := .tup [.int 2, .int 1]) ht3
          have e4 := same_new (u := .tup [.int 999999999999, .int 999999999998]) ht4
          have e5 := same_new (u := .tup [.int (-1), .int 1]) ht5
          have el := same_new (u := .lst [.ref t1, .ref t2, .ref t3, .ref t4, .ref t5]) htl
          have r5 : Rats K _ [.ref t1, .ref t2, .ref t3, .ref t4, .ref t5] [mkRat 3 2, mkRat (-1) 2, mkRat 2 1, mkRat 999999999999 999999999998, mkRat (-1) 1] :=
            Rats.cons (RatAt.same (((e2.trans e3).trans e4).trans e5) (rat_of (n := 3) (d := 2) upd_same (by decide +kernel) (by decide +kernel))) (Rats.cons (RatAt.same ((e3.trans e4).trans e5) (rat_of (n := -1) (d := 2) upd_same (by decide +kernel) (by decide +kernel)))
              (Rats.cons (RatAt.same (e4.trans e5) (rat_of (n := 2) (d := 1) upd_same (by decide +kernel) (by decide +kernel))) (Rats.cons (RatAt.same e5 (rat_of (n := 999999999999) (d := 999999999998) upd_same (by decide +kernel) (by decide +kernel)))
                (Rats.one (rat_of (n := -1) (d := 1) upd_same (by decide +kernel) (by decide +kernel))))))
          have rtl := RL.new htl r5
          have sl := ((((e1.trans e2).trans e3).trans e4).trans e5).trans el
          generalize [mkRat 3 2, mkRat (-1) 2, mkRat 2 1, mkRat 999999999999 999999999998, mkRat (-1) 1] = q5 at rtl r5
          have l5 : q5.length = 5 := r5.1.symm
          have hS3 := sl.seq hS2
          have r3 := r2.same sl
          refine ⟨_, rfl, a, ns, 1, rfl, hS3, _, _, rfl, rfl, ⟨by decide, by decide⟩, _, _, rfl, rfl, (by show (0 : Int) < 5; decide), ?_⟩
          have z0 : 0 ≤ cellAt ns 1 / 4 % 5 := Int.emod_nonneg _ (by decide)
          have z1 : cellAt ns 1 / 4 % 5 < 5 := Int.emod_lt_of_pos _ (by decide)
          obtain ⟨j, ej⟩ := Int.eq_ofNat_of_zero_le z0
          refine ixr (k := j) rtl (List.getElem?_eq_getElem (by omega)) ej fun v hv => ?_
          obtain ⟨xs, ex, rx⟩ := id r3
          refine ⟨_, rfl, _, rfl, _, rfl, a, ns, 1, rfl, hS3, _, _, rfl, rfl, ⟨by decide, by decide⟩, _, rfl, l, xs, rfl, .inl (SqL.of ex), _, _, rfl, rfl, (by show (0 : Int) < (xs.length : Int); rw [rx.1]; omega), ?_⟩
          have i0 : 0 ≤ cellAt ns 1 / 20 % (xs.length : Int) := Int.emod_nonneg _ (by rw [rx.1]; omega)
          have i1 : cellAt ns 1 / 20 % (xs.length : Int) < (xs.length : Int) := Int.emod_lt_of_pos _ (by rw [rx.1]; omega)
          obtain ⟨i, ei⟩ := Int.eq_ofNat_of_zero_le i0
          refine ixs (i := i) r3 (by rw [← rx.1]; omega) ei hv fun H3 k3 o3 rl3 => ?_
          exact ⟨_, _, rfl, rl3, by rw [List.length_set]; exact hlen, (kt_of ((s1.trans se).trans sl)).trans k3⟩
        · exact ⟨ws, none, rfl, r2, hlen, kt_of (s1.trans se)⟩
      · exact ifF rfl ⟨ws, none, rfl, r2, hlen, kt_of (s1.trans se)⟩
    clear r1 hlen hS1 s1
    rintro σ' H1 ⟨us, sv, rfl, rl, hlen, kH⟩
    have hS1 := hS.kt kH
    -- a part with many figures
    refine ⟨fun σ' H' => ∃ (us : List Rat) (sv bv : Option V), σ' = [some (.ref a), some (.ref l), sv, bv, none, none, none, none, none, none, none, none] ∧ RL K H' l us ∧ us.length ≤ 11 ∧ Kt H H', ?_, ?_⟩
    · refine ⟨_, rfl, Nat.zero_le _, fun te hte => ?_⟩
      have se := same_new (u := .lst []) hte
      have ree : RL K (upd H1 te (.lst [])) te [] := RL.new hte Rats.nil
      refine ⟨_, _, (rl.same se).dp, ree.dp, sh_rats _, sh_rats _, _, rfl, ?_⟩
      rw [eqv_rats]
      have r2 := rl.same se
      have hS2 := se.seq hS1
      refine ifB (fun hne => ?_) (fun hne => ?_)
      · have ne : us ≠ [] := by simpa using hne
        have pos : 0 < us.length := List.length_pos_iff.mpr ne
        refine ⟨_, rfl, a, ns, 2, rfl, hS2, _, _, rfl, rfl, (by show (0 : Int) < 5; decide), rfl, _, rfl, ?_⟩
        refine ifB (fun hq => ?_) (fun hq => ?_)
        · refine ⟨_, rfl, a, ns, 2, rfl, hS2, _, _, rfl, rfl, ⟨by decide, by decide⟩, _, _, rfl, rfl, (by show (0 : Int) < 999999999999; decide), _, _, rfl, rfl, ?_⟩
          have c0 : 0 ≤ cellAt ns 2 / 5 % 999999999999 := Int.emod_nonneg _ (by decide)
          have c1 : cellAt ns 2 / 5 % 999999999999 < 999999999999 := Int.emod_lt_of_pos _ (by decide)
          obtain ⟨b, eb⟩ := Int.eq_ofNat_of_zero_le (show 0 ≤ 1 + cellAt ns 2 / 5 % 999999999999 by omega)
          dsimp only
          rw [eb]
          refine ⟨_, rfl, a, ns, 3, rfl, hS2, _, rfl, _, _, rfl, rfl, _, _, rfl, rfl, (by show (0 : Int) < (b : Int) + 1; omega), ?_⟩
          have b40 : b < 2 ^ 40 := by omega
          refine ⟨_, rfl, _, b, rfl, by omega, Nat.lt_of_lt_of_le b40 (Nat.pow_le_pow_right (by decide) (by decide)), fun r H2 s2 hr => ?_⟩
          refine ⟨_, rfl, _, rfl, ixs_last (r2.same s2) pos hr fun H3 k3 o3 rl3 => ?_⟩
          refine ⟨_, _, _, rfl, rl3, by rw [List.length_set]; exact hlen, ((kH.trans (kt_of se)).trans (kt_of s2)).trans k3⟩
        · exact ⟨us, sv, none, rfl, r2, hlen, kH.trans (kt_of se)⟩
      · exact ifF rfl ⟨us, sv, none, rfl, r2, hlen, kH.trans (kt_of se)⟩
    clear rl hlen hS1 kH
    rintro σ' H1 ⟨us, sv, bv, rfl, rl, hlen, kH⟩
    -- handed
    obtain ⟨xs, ex, rx⟩ := id rl
    refine ⟨_, rfl, l, xs, rfl, .inl (SqL.of ex), fun lh hlh => ?_⟩
    have sh := same_new (u := .lst xs) hlh
    have rh := RL.new hlh rx
    have nlh : l ≠ lh := ne_of_none ex hlh
    generalize upd H1 lh (.lst xs) = H2 at sh rh
    have rl2 := rl.same sh
    -- made
    refine ⟨fun σ' H' => ∃ t : Addr, σ' = [some (.ref a), some (.ref l), sv, bv, some (.ref lh), some (.ref t), none, none, none, none, none, none] ∧ Same H2 H' ∧
      ((FieldOk us ∧ ∃ x m lk : Addr, H' t = some (.tup [.ref x, .ref lk]) ∧ FieldAt K H' x m us ∧ m ≠ lh ∧ RL K H' lk []) ∨ (¬ FieldOk us ∧ ∃ lk : Addr, H' t = some (.tup [.non, .ref lk]) ∧ H' lk = some (.lst ((kindL 0).map V.bl)))), ?_, ?_⟩
    · refine ⟨_, rfl, .inl ⟨lh, us, rfl, rh, by omega, fun ok t x m lk H3 s3 et F nx nm rk => ?_, fun no t lk H3 s3 et ek => ?_⟩⟩
      · refine ⟨t, rfl, s3, .inl ⟨ok, x, m, lk, et, F, fun z => ?_, rk⟩⟩
        rw [z] at nm
        obtain ⟨ys, ey, _⟩ := rh
        rw [ey] at nm
        cases nm
      · exact ⟨t, rfl, s3, .inr ⟨no, lk, et, ek⟩⟩
    rintro σ' H3 ⟨t, rfl, s23, hm⟩
    have rh3 := rh.same s23
    have rl3 := rl2.same s23
    have kH3 := (kH.trans (kt_of sh)).trans (kt_of s23)
    clear rh rl2 s23 sh rl ex rx kH
    -- what was handed in stays
    refine ⟨_, rfl, _, rfl, _, _, rh3.dp, rl3.dp, sh_rats _, sh_rats _, _, rfl, ?_⟩
    rw [eqv_rats]
    refine ifF (by simp) ?_
    -- wrong
    obtain ⟨ys, ey, ry⟩ := id rl3
    have nUnit : ∀ q ∈ us, ¬ (0 ≤ q.num ∧ q.num ≤ (q.den : Int)) → ¬ FieldOk us := fun q hq z y => z (y.2.2 q hq)
    refine ⟨fun σ' H' => ∃ w0 : Bool, σ' = [some (.ref a), some (.ref l), sv, bv, some (.ref lh), some (.ref t), some (.bl w0), none, none, none, none, none] ∧ H' = H3 ∧ (w0 = true ↔ ¬ (1 ≤ us.length ∧ us.length ≤ 8)), ?_, ?_⟩
    · refine ⟨_, rfl, l, ys, rfl, .inl (SqL.of ey), ?_⟩
      rw [ry.1]
      by_cases h1 : 1 ≤ us.length
      · refine ⟨_, _, rfl, rfl, true, congrArg V.bl (decide_eq_true (by omega)), ifT rfl ?_⟩
        by_cases h8 : us.length ≤ 8
        · exact ⟨_, _, rfl, rfl, true, congrArg V.bl (decide_eq_true (by omega)), false, rfl, rfl, by simp [h1, h8]⟩
        · exact ⟨_, _, rfl, rfl, false, congrArg V.bl (decide_eq_false (by omega)), true, rfl, rfl, by simp [h8]⟩
      · exact ⟨_, _, rfl, rfl, false, congrArg V.bl (decide_eq_false (by omega)), ifF rfl ⟨false, rfl, true, rfl, rfl, by simp [h1]⟩⟩
    rintro σ' H3' ⟨w0, rfl, rfl, hw0⟩
    refine ⟨fun σ' H' => ∃ (w1 : Bool) (pv : Option V), σ' = [some (.ref a), some (.ref l), sv, bv, some (.ref lh), some (.ref t), some (.bl w1), pv, none, none, none, none] ∧ H' = H3' ∧ (w1 = true ↔ ¬ FieldOk us), ?_, ?_⟩
    · refine ⟨_, rfl, l, rfl, ⟨ys, SqL.of ey⟩, for_list (K := K) (a := l) (xs := ys) (fun i σ H' => H' = H3' ∧ ∃ (w1 : Bool) (pv : Option V), σ = [some (.ref a), some (.ref l), sv, bv, some (.ref lh), some (.ref t), some (.bl w1), pv, none, none, none, none] ∧ (w1 = true ↔ ¬ (1 ≤ us.length ∧ us.length ≤ 8 ∧ ∀ q ∈ us.take i, 0 ≤ q.num ∧ q.num ≤ (q.den : Int))))
        ⟨rfl, w0, none, rfl, by rw [hw0]; simp⟩ (fun i σ H' _ ⟨e, _⟩ => by rw [e]; exact SqL.of ey) ?_ ?_⟩
      · rintro i v σ H' hi ⟨rfl, w1, pv, rfl, hw1⟩
        have hil : i < us.length := by rw [← ry.1]; exact (List.getElem?_eq_some_iff.mp hi).1
        have e1 : us[i]? = some us[i] := List.getElem?_eq_getElem hil
        have rv := ry.2 i v us[i] hi e1
        have et : us.take (i + 1) = us.take i ++ [us[i]] := by rw [List.take_succ, e1]; rfl
        have good : (0 ≤ us[i].num ∧ us[i].num ≤ (us[i].den : Int)) → (w1 = true ↔ ¬ (1 ≤ us.length ∧ us.length ≤ 8 ∧ ∀ q ∈ us.take (i + 1), 0 ≤ q.num ∧ q.num ≤ (q.den : Int))) := fun hq => by
          rw [hw1, et]
          constructor
          · intro z y
            exact z ⟨y.1, y.2.1, fun q hq' => y.2.2 q (List.mem_append_left _ hq')⟩
          · intro z y
            refine z ⟨y.1, y.2.1, fun q hq' => ?_⟩
            rcases List.mem_append.mp hq' with h | h
            · exact y.2.2 q h
            · rw [List.mem_singleton.mp h]
              exact hq
        have bad : ¬ (0 ≤ us[i].num ∧ us[i].num ≤ (us[i].den : Int)) → (true = true ↔ ¬ (1 ≤ us.length ∧ us.length ≤ 8 ∧ ∀ q ∈ us.take (i + 1), 0 ≤ q.num ∧ q.num ≤ (q.den : Int))) := fun hq => by
          refine ⟨fun _ y => hq (y.2.2 _ ?_), fun _ => rfl⟩
          rw [et]
          exact List.mem_append_right _ List.mem_cons_self
        by_cases c1 : 0 ≤ us[i].num
        · refine ⟨_, _, rfl, rv, _, _, rfl, rfl, true, congrArg V.bl (decide_eq_true c1), ifT rfl ?_⟩
          by_cases c2 : us[i].num ≤ (us[i].den : Int)
          · exact ⟨_, _, rfl, rv, _, _, rfl, rfl, true, congrArg V.bl (decide_eq_true c2), ifF rfl ⟨rfl, w1, _, rfl, good ⟨c1, c2⟩⟩⟩
          · exact ⟨_, _, rfl, rv, _, _, rfl, rfl, false, congrArg V.bl (decide_eq_false c2), ifT rfl ⟨rfl, true, _, rfl, bad fun z => c2 z.2⟩⟩
        · exact ⟨_, _, rfl, rv, _, _, rfl, rfl, false, congrArg V.bl (decide_eq_false c1), ifF rfl ⟨false, rfl, ifT rfl ⟨rfl, true, _, rfl, bad fun z => c1 z.1⟩⟩⟩
      · rintro σ H' ⟨rfl, w1, pv, rfl, hw1⟩
        rw [ry.1, List.take_length] at hw1
        exact ⟨w1, pv, rfl, rfl, hw1⟩
    rintro σ' H3'' ⟨w1, pv, rfl, rfl, hw1⟩
    refine ⟨_, rfl, _, rfl, ?_⟩
    refine ifB (fun hw => ?_) (fun hw => ?_)
    · -- refused
      have no := hw1.mp hw
      rcases hm with ⟨ok, _⟩ | ⟨_, lk, et, ek⟩
      · exact absurd ok no
      refine ⟨_, rfl, 0, rfl, fun l3 H4 s4 n4 e4 => ⟨(by show 2 ≤ sizeLine; decide), fun p hp => ?_⟩⟩
      have sp := same_new (u := .tup [.non, .ref l3]) hp
      refine ⟨.tuple [.none, dBools (kindL 0)], .tuple [.none, dBools (kindL 0)], .tup (SqT.of (sp _ _ (s4 _ _ et))) (.cons .non (.cons (bools_at (sp _ _ (s4 _ _ ek))) .nil)), .tup (SqT.of upd_same) (.cons .non (.cons (bools_at (sp _ _ e4)) .nil)), rfl, rfl, ?_⟩
      exact k _
    have ok : FieldOk us := by
      have : ¬ ¬ FieldOk us := fun z => by
        rw [hw1.mpr z] at hw
        cases hw
      exact Classical.byContradiction this
    rcases hm with ⟨_, x, m, lk, et, F, nm, rk⟩ | ⟨no, _⟩
    rotate_left
    · exact absurd ok no
    obtain ⟨ok1, ok8, oku⟩ := id ok
    -- what was handed in is changed
    refine ⟨_, rfl, ty_list rh3, (by show 2 ≤ sizeLine; decide), fun t1 ht1 => ?_⟩
    have st1 := same_new (u := .tup [.int 1, .int 2]) ht1
    refine nI (ixa (q := mkRat 1 2) (rh3.same st1) (by omega) (rat_of upd_same (by decide +kernel) (by decide +kernel)) fun H4 k4 o4 rh4 => ?_)
    refine ⟨(by show 2 ≤ sizeLine; decide), fun t2 ht2 => ?_⟩
    have st2 := same_new (u := .tup [.int 1, .int 7]) ht2
    refine ⟨_, rfl, cI (ixs (i := 0) (q := mkRat 1 7) (rh4.same st2) (by rw [List.length_append]; omega) rfl (rat_of upd_same (by decide +kernel) (by decide +kernel)) fun H5 k5 o5 rh5 => ?_)⟩
    have kt5 := (((kt_of st1).trans k4).trans (kt_of st2)).trans k5
    have at5 : ∀ {q : Addr} {o : HO}, H3'' q = some o → q ≠ lh → H5 q = some o := fun {q o} e hq => by
      rw [o5 q hq]
      refine st2 _ _ ?_
      rw [o4 q hq]
      exact st1 _ _ e
    have keep : ∀ {q : Addr} {qs : List Rat}, RL K H3'' q qs → q ≠ lh → RL K H5 q qs := fun {q qs} h hq => by
      obtain ⟨zs, ez, rz⟩ := h
      exact ⟨zs, at5 ez hq, rz.kt kt5⟩
    have rl5 := keep rl3 nlh
    have F5 : FieldAt K H5 x m us := by
      obtain ⟨⟨dx, e⟩, r⟩ := F
      refine ⟨⟨dx, at5 e fun z => ?_⟩, keep r nm⟩
      rw [z] at e
      obtain ⟨zs, ez, _⟩ := rh3
      rw [ez] at e
      cases e
    have nk : lk ≠ lh := fun z => by
      rw [z] at rk
      obtain ⟨z1, e1, r1⟩ := rk
      obtain ⟨z2, e2, r2⟩ := rh3
      rw [e1] at e2
      cases e2
      have a1 := r1.1
      have a2 := r2.1
      have a3 : ([] : List Rat).length = 0 := rfl
      omega
    have rk5 := keep rk nk
    have et5 := at5 et fun z => by
      rw [z] at et
      obtain ⟨zs, ez, _⟩ := rh3
      rw [ez] at et
      cases et
    have kH5 := kH3.trans kt5
    clear kt5 at5 keep rl3 F rk et kH3 rh3 rh4 rh5 o4 o5 k4 k5
    -- found
    refine ⟨_, rfl, t, _, _, .ref x, rfl, rfl, SqT.of et5, rfl, ask_walls F5 (by omega) fun w1 H6 nw1 s6 rw1 => ?_⟩
    refine ⟨_, rfl, t, _, _, .ref lk, rfl, rfl, SqT.of (s6 _ _ et5), rfl, Nat.zero_le _, fun te hte => ?_⟩
    have se := same_new (u := .lst []) hte
    have ree : RL K (upd H6 te (.lst [])) te [] := RL.new hte Rats.nil
    refine ⟨_, _, ((rk5.same s6).same se).dp, ree.dp, sh_rats _, sh_rats _, _, rfl, ?_⟩
    rw [eqv_rats]
    refine ifF (by simp) ?_
    refine ⟨_, rfl, _, rfl, w1, l, us, us, rfl, rw1.same se, (rl5.same s6).same se, by omega, true, congrArg V.bl (decide_eq_true rfl), ifF rfl ?_⟩
    have rw1e := rw1.same se
    refine ⟨_, rfl, ty_list rw1e, (by show 2 ≤ sizeLine; decide), fun t3 ht3 => ?_⟩
    have st3 := same_new (u := .tup [.int 0, .int 1]) ht3
    refine nI (ixa (q := 0) (rw1e.same st3) (by omega) ⟨t3, rfl, SqT.of upd_same⟩ fun H7 k7 o7 rw17 => ?_)
    have s57 : Same H5 H7 := same_but ((s6.trans se).trans st3) nw1 o7
    have rl7 := rl5.same s57
    have F7 := F5.same s57
    have et7 := s57 _ _ et5
    have kH7 := kH5.trans (kt_of s57)
    -- its walls again, and turned
    refine ⟨_, rfl, t, _, _, .ref x, rfl, rfl, SqT.of et7, rfl, ask_walls F7 (by omega) fun w2 H8 nw2 s8 rw2 => ?_⟩
    refine ⟨_, rfl, w2, l, us, us, rfl, rw2, rl7.same s8, by omega, true, congrArg V.bl (decide_eq_true rfl), ifF rfl ?_⟩
    have F8 := F7.same s8
    refine ⟨_, rfl, t, _, _, .ref x, rfl, rfl, SqT.of (s8 _ _ et7), rfl, x, m, us, rfl, F8, ok1, ok8, oku, fun y my H9 ny s9 Y => ask_walls Y (by rw [List.length_reverse]; omega) fun w3 HA nw3 sA rw3 => ?_⟩
    have s7A := (s8.trans s9).trans sA
    obtain ⟨zs, ez, rz⟩ := id (rl7.same s7A)
    refine ⟨_, rfl, l, zs, rfl, SqL.of ez, fun lq hlq => ?_⟩
    have sq := same_new (u := .lst zs.reverse) hlq
    refine ⟨w3, lq, us.reverse, us.reverse, rfl, rw3.same sq, RL.new hlq rz.rev, by rw [List.length_reverse]; omega, true, congrArg V.bl (decide_eq_true rfl), ifF rfl ?_⟩
    have s7q := s7A.trans sq
    generalize upd HA lq (.lst zs.reverse) = HB at s7q
    -- other, both
    refine ⟨_, rfl, a, ns, 17, 8, rfl, hS.kt (kH7.trans (kt_of s7q)), by decide, by decide, fun lo HC sC nlo rlo => ?_⟩
    have hgo := sides_good ns 17 8
    have hlo := sides_len ns 17 (most := 8) (by decide)
    generalize sidesOf ns 17 8 = vs at rlo hgo hlo
    have s7C := s7q.trans sC
    refine ⟨_, rfl, t, _, _, .ref x, rfl, rfl, SqT.of (s7C _ _ et7), rfl, ?_⟩
    obtain ⟨os, eo, ro⟩ := id rlo
    refine ⟨_, rfl, lo, os, rfl, .inl (SqL.of eo), fun lc hlc => ?_⟩
    refine nI (make_field (RL.new hlc ro) hlo.1 (by omega) hgo.unit fun g pg HD ng npg sD G => ?_)
    have sCD := (same_new (u := .lst os) hlc).trans sD
    have s7D := s7C.trans sCD
    have rloD := rlo.same sCD
    refine .inr ⟨x, m, g, pg, us, vs, rfl, F7.same s7D, G, ok1, ok8, by omega, oku, hgo.unit, fun h8 tb xb rb lkb HE sE eb FB rkb => ?_, fun h8 tb lkb HE sE eb ekb => ?_⟩
    · have s7E := s7D.trans sE
      obtain ⟨us2, eu2, ru2⟩ := id (rl7.same s7E)
      obtain ⟨vs2, ev2, rv2⟩ := id (rloD.same sE)
      refine ⟨_, rfl, l, us2, rfl, .inl (SqL.of eu2), _, rfl, lo, vs2, rfl, .inl (SqL.of ev2), _, _, rfl, rfl, _, _, rfl, rfl, _, rfl, ifF (decide_eq_false (by rw [ru2.1, rv2.1]; omega)) ?_⟩
      refine ⟨_, rfl, tb, _, _, .ref lkb, rfl, rfl, SqT.of eb, rfl, Nat.zero_le _, fun te2 hte2 => ?_⟩
      have se2 := same_new (u := .lst []) hte2
      have ree2 : RL K (upd HE te2 (.lst [])) te2 [] := RL.new hte2 Rats.nil
      refine ⟨_, _, (rkb.same se2).dp, ree2.dp, sh_rats _, sh_rats _, true, congrArg V.bl (by rw [eqv_rats]; exact decide_eq_true rfl), ifT rfl ?_⟩
      refine ⟨_, rfl, tb, _, _, .ref xb, rfl, rfl, SqT.of (se2 _ _ eb), rfl, ask_walls (FB.same se2) (by rw [List.length_append]; omega) fun w4 HG nw4 sG rw4 => ?_⟩
      have sEG := se2.trans sG
      obtain ⟨us3, eu3, ru3⟩ := id ((rl7.same s7E).same sEG)
      obtain ⟨vs3, ev3, rv3⟩ := id ((rloD.same sE).same sEG)
      refine ⟨_, rfl, _, rfl, l, lo, us3, vs3, rfl, rfl, eu3, ev3, ?_, fun lr hlr => ?_⟩
      · have a1 := ru3.1
        have a2 := rv3.1
        exact Nat.le_trans (show us3.length + vs3.length ≤ 1000 by omega) (by decide)
      have sr := same_new (u := .lst (us3 ++ vs3)) hlr
      refine ⟨w4, lr, us ++ vs, us ++ vs, rfl, rw4.same sr, RL.new hlr (ru3.append rv3), by rw [List.length_append]; omega, true, congrArg V.bl (decide_eq_true rfl), ifT rfl ?_⟩
      have s7r := (s7E.trans sEG).trans sr
      refine ⟨_, rfl, t, _, _, .ref x, rfl, rfl, SqT.of (s7r _ _ et7), rfl, ask_walls (F7.same s7r) (by omega) fun w5 HI nw5 sI rw5 => ?_⟩
      refine ⟨_, rfl, w5, l, us, us, rfl, rw5, (rl7.same s7r).same sI, by omega, ?_⟩
      rw [decide_eq_true rfl]
      exact k _
    · have s7E := s7D.trans sE
      obtain ⟨us2, eu2, ru2⟩ := id (rl7.same s7E)
      obtain ⟨vs2, ev2, rv2⟩ := id (rloD.same sE)
      refine ⟨_, rfl, l, us2, rfl, .inl (SqL.of eu2), _, rfl, lo, vs2, rfl, .inl (SqL.of ev2), _, _, rfl, rfl, _, _, rfl, rfl, _, rfl, ifT (decide_eq_true (by rw [ru2.1, rv2.1]; omega)) ?_⟩
      refine ⟨_, rfl, 3, rfl, fun l3 HF sF n3 e3 => ⟨(by show 2 ≤ sizeLine; decide), fun p hp => ?_⟩⟩
      have sp := same_new (u := .tup [.non, .ref l3]) hp
      refine ⟨.tuple [.none, dBools (kindL 3)], .tuple [.none, dBools (kindL 3)], .tup (SqT.of (sp _ _ (sF _ _ eb))) (.cons .non (.cons (bools_at (sp _ _ (sF _ _ ekb))) .nil)), .tup (SqT.of upd_same) (.cons .non (.cons (bools_at (sp _ _ e3)) .nil)), rfl, rfl, ?_⟩
      exact k _

end
def fnL : List He.DefD := [dfD "_law_low" s_law_low, dfD "_law_side" s_law_side, dfD "_law_cell_at" s_law_cell_at, dfD "joined" s_joined, dfD "_law_kind" s_law_kind, dfD "_law_made" s_law_made, dfD "_law_one" s_law_one, dfD "_law_whole" s_law_whole, dfD "_law_parts" s_law_parts, dfD "_law_sides" s_law_sides, dfD "turned" s_turned, dfD "law" s_law, mtD "Field" "__init__" "Field.__init__" s_Field_init, mtD "Field" "walls" "Field.walls" s_Field_walls]
def faL : List He.Fa := btFa ++ [.glo "_law_low", .glo "_law_side", .glo "_law_cell_at", .glo "joined", .glo "_law_kind", .glo "_law_made", .glo "_law_one", .glo "_law_whole", .glo "_law_parts", .glo "_law_sides", .glo "turned", .glo "law", .glo "Field", .cls "Field", .noat "Field" "parts", .meth "Field" "walls", .mkr "Field", .glo "NoField", .exc "NoField", .exm "NoField" "EchoError" true, .glo "TooMany", .exc "TooMany", .exm "TooMany" "EchoError" true, .glo "EchoError", .glo "NoMoment", .glo "NoRecord", .glo "BadText", .free "ValueError"]
def xbL (K : PySem.W.Frag) : Bool := kindB K (He.ga K "NoField") 0 && kindB K (He.ga K "TooMany") 3
abbrev rowL : PySem.W.OpenRow := PySem.W.OpenLaw.row PySem.Challenge.rw_echofield_k02_fields
abbrev hkL : PySem.W.Hook := hookX 5 faL fnL xbL
def obL (s : PySem.W.SharedT) : AlX := obsXG 5 faL fnL xbL (HandSHeadRun.getT s)
theorem obL_eq (s : PySem.W.SharedT) : obL s = hkL.obs s.abs := obsXG_eq (HandSHeadRun.getT_eq s)
def looseL : List Str := (["EchoError", "NoField", "NoMoment", "NoRecord", "TooMany", "BadText", "Field", "turned", "joined", "_law_cell_at", "_law_whole", "_law_kind", "_law_one", "_law_low", "_law_plus", "_law_times", "_law_less", "_law_parts", "_law_side", "_law_sides"] : List Str) ++ (["_law_made"] : List Str)
theorem runL (w : World) : HandSHeadRun.RunEq rowL (PySem.W.view rowL.prog [24]) hkL obL 3000 looseL w := by
  intro os
  kernel_rfl
theorem lawL {P : Program} {w : World} {K : PySem.W.Frag} {h : Heap} {mg : Str → Option Value} (X : K.In h) (G : h.Ns mainGlobals mg) (c : SaysX faL fnL xbL K) (base : Heap) : Gf CX0 P w K mg base 8 "law" s_law ["script"] (spLaw K) := by
  have B : Bt mg := bt_of c X G
  have xb := c.x
  unfold xbL at xb
  simp only [Bool.and_eq_true] at xb
  obtain ⟨q0, q1⟩ := xb
  have eF : ErrX K mg "NoField" := ⟨He.glo_ok X G (c.d.fact 27 (f := .glo "NoField") rfl), (He.exc_ok (c.d.fact 28 (f := .exc "NoField") rfl)).1, (He.exc_ok (c.d.fact 28 (f := .exc "NoField") rfl)).2.1, (He.exc_ok (c.d.fact 28 (f := .exc "NoField") rfl)).2.2.1, (He.exc_ok (c.d.fact 28 (f := .exc "NoField") rfl)).2.2.2⟩
  have xF := He.exm_ok (c.d.fact 29 (f := .exm "NoField" "EchoError" true) rfl)
  have kF : KindAt K (He.ga K "NoField") 0 := kind_ok q0
  have eT : ErrX K mg "TooMany" := ⟨He.glo_ok X G (c.d.fact 30 (f := .glo "TooMany") rfl), (He.exc_ok (c.d.fact 31 (f := .exc "TooMany") rfl)).1, (He.exc_ok (c.d.fact 31 (f := .exc "TooMany") rfl)).2.1, (He.exc_ok (c.d.fact 31 (f := .exc "TooMany") rfl)).2.2.1, (He.exc_ok (c.d.fact 31 (f := .exc "TooMany") rfl)).2.2.2⟩
  have xT := He.exm_ok (c.d.fact 32 (f := .exm "TooMany" "EchoError" true) rfl)
  have kT : KindAt K (He.ga K "TooMany") 3 := kind_ok q1
  have gE := He.glo_ok X G (c.d.fact 33 (f := .glo "EchoError") rfl)
  have eG : ExG K mg := ⟨He.glo_ok X G (c.d.fact 27 (f := .glo "NoField") rfl), He.glo_ok X G (c.d.fact 34 (f := .glo "NoMoment") rfl), He.glo_ok X G (c.d.fact 35 (f := .glo "NoRecord") rfl), He.glo_ok X G (c.d.fact 30 (f := .glo "TooMany") rfl), He.glo_ok X G (c.d.fact 36 (f := .glo "BadText") rfl), He.free_ok X G (c.d.fact 37 (f := .free "ValueError") rfl)⟩
  have TF : FTx K mg := ftx_of c X G 22
  have gI : InitOk P w K mg base := by
    obtain ⟨fd, F⟩ := c.d.def_ 12 (d := mtD "Field" "__init__" "Field.__init__" s_Field_init) rfl
    exact ⟨_, fd, ok_Field_init F B TF, He.mkr_ok (c.d.fact 26 (f := .mkr "Field") rfl), F.bindsN fun _ _ _ _ _ _ us hl => match us, hl with | [_, _], _ => rfl⟩
  have iX : InitOkX P w K mg base := by
    obtain ⟨fd, F⟩ := c.d.def_ 12 (d := mtD "Field" "__init__" "Field.__init__" s_Field_init) rfl
    exact ⟨_, fd, ok_Field_init_X F B TF eF, He.mkr_ok (c.d.fact 26 (f := .mkr "Field") rfl), F.bindsN fun _ _ _ _ _ _ us hl => match us, hl with | [_, _], _ => rfl⟩
  have gW : WallsOk P w K mg base := by
    obtain ⟨fd, F⟩ := c.d.def_ 13 (d := mtD "Field" "walls" "Field.walls" s_Field_walls) rfl
    exact ⟨_, fd, ok_Field_walls F B TF, He.meth_ok (c.d.fact 25 (f := .meth "Field" "walls") rfl), F.bindsN fun _ _ _ _ _ _ us hl => match us, hl with | [_], _ => rfl⟩
  have g_law_low := ok_law_low (P := P) (w := w) (base := base) (df_of c X G 0 10 (x := "_law_low") (st := s_law_low)) B
  have g_law_side := ok_law_side (P := P) (w := w) (base := base) (df_of c X G 1 11 (x := "_law_side") (st := s_law_side)) B g_law_low
  have g_law_cell_at := ok_law_cell_at (P := P) (w := w) (base := base) (df_of c X G 2 12 (x := "_law_cell_at") (st := s_law_cell_at)) B
  have g_joined_X := ok_joined_X (P := P) (w := w) (base := base) (df_of c X G 3 13 (x := "joined") (st := s_joined)) B TF gI gW eT
  have g_law_kind := ok__law_kind (P := P) (w := w) (base := base) (df_of c X G 4 14 (x := "_law_kind") (st := s_law_kind)) B eG
  have g_law_made := ok_law_made (P := P) (w := w) (base := base) (df_of c X G 5 15 (x := "_law_made") (st := s_law_made)) B g_joined_X g_law_kind TF iX gE xF kF xT kT
  have g_law_one := ok_law_one (P := P) (w := w) (base := base) (df_of c X G 6 16 (x := "_law_one") (st := s_law_one)) B
  have g_law_whole := ok_law_whole (P := P) (w := w) (base := base) (df_of c X G 7 17 (x := "_law_whole") (st := s_law_whole)) B
  have g_law_parts := ok_law_parts (P := P) (w := w) (base := base) (df_of c X G 8 18 (x := "_law_parts") (st := s_law_parts)) B g_law_whole
  have g_law_sides := ok_law_sides (P := P) (w := w) (base := base) (df_of c X G 9 19 (x := "_law_sides") (st := s_law_sides)) B g_law_side g_law_cell_at
  have g_turned := ok_turned (P := P) (w := w) (base := base) (df_of c X G 10 20 (x := "turned") (st := s_turned)) B TF gI gW
  exact ok_law B g_law_side g_law_cell_at g_law_low g_law_made g_law_one g_law_parts g_law_sides g_turned TF gI gW
theorem factsL {P : Program} {w : World} {K : PySem.W.Frag} {h : Heap} {mg : Str → Option Value} {f : Addr} (X : K.In h) (G : h.Ns mainGlobals mg) (hfa : mg ("law" : Str) = some (.ref f)) (c : SaysX faL fnL xbL K) :
    ∃ fd : FuncData, (∀ (s : Shared) (v : Value), BindsTo s fd ⟨[v], []⟩ [("script", v)]) ∧ ∀ base : Heap, K.In base → base.Ns mainGlobals mg → FnOk P w K mg base CX0 8 f fd ["script"] (spLaw K) := by
  obtain ⟨fd, F⟩ := c.d.def_ 11 (d := dfD "law" s_law) rfl
  have b := FunD.bindsA (ps := ["script"]) F fun _ _ _ _ _ _ us hl => match us, hl with | [_], _ => rfl
  have e := hfa.symm.trans (He.glo_ok X G (c.d.fact 21 (f := .glo "law") rfl))
  cases e
  exact ⟨fd, fun s v => b s [v] rfl, fun base _ _ => lawL X G c base _ fd F⟩
end Ef
open PySem PySem.W PySem.Calls PyProof.Rows
set_option maxHeartbeats 0
theorem PySem.Challenge.cw_echofield_k02_fields_holds : PySem.Challenge.rw_echofield_k02_fields.Holds := by
  w_on; o_law
  refine HandSHeadRun.head_any (r := OpenLaw.row PySem.Challenge.rw_echofield_k02_fields) (q := view (OpenLaw.row PySem.Challenge.rw_echofield_k02_fields).prog [24]) (H := Ef.hkL) (ob := Ef.obL) (M := 3000) (loose := Ef.looseL) (d := HandSHeadRun.topDef (OpenLaw.row PySem.Challenge.rw_echofield_k02_fields).prog 24) (kwd := []) Ef.obL_eq
    (by kernel_rfl) (fun s => by kernel_rfl) Ef.runL (by kernel_rfl) (by kernel_rfl) (by kernel_rfl) (by rfl) (by first | assumption | decide +kernel) (by decide +kernel) ⟨rfl, rfl, rfl, rfl, rfl, by decide +kernel⟩ ?hw ?hc
  case hw => w_witness2
  case hc =>
    refine L2.walk_ofE (l := PySem.Challenge.rw_echofield_k02_fields) (n := 63) (k := 8) (x := "script") (CX := L2.CX0) rfl (by decide) (by kernel_rfl) ⟨rfl, by decide, by decide⟩ ?F (fun _ _ _ _ z => z)
    intro w mg fa h Y G hmg0
    obtain ⟨K, KX, c⟩ := Y
    have hmg : mg ("law" : PySem.Str) = some (.ref fa) := by
      have e : (HandSHeadRun.topDef (OpenLaw.row PySem.Challenge.rw_echofield_k02_fields).prog 24).name = ("law" : PySem.Str) := by kernel_rfl
      rw [← e]
      exact hmg0
    obtain ⟨fd, hb, hF⟩ := Ef.factsL (P := (PySem.Challenge.rw_echofield_k02_fields).prog) (w := w) KX G hmg c
    exact ⟨K, fd, Ef.spLaw K, KX, hb, fun H a ns hl hO hS => ⟨a, ns, rfl, Ef.scr_of hO hS, hl, fun _ => rfl⟩, hF⟩
#print axioms PySem.Challenge.cw_echofield_k02_fields_holds
