import PyProof.Rows.All
import Wide.All
import OpenK.AllK
import Wide.FinOn
import HandS.Base
import HandS.Call
import HandS.List
import HandS.Comp
import HandS.Ends
import HandS.Words
import HandS.WordsList
import HandS.Iter
import HandS.Text
import HandS.Codes
import PyProof.StrBlock2
import HandS.Wide
import HandS.IsInst
import HandS.Defaults
import HandS.Head0
import HandS.Head1
import HandS.Head2
import HandS.HeadEnd
import HandS.HeadHook1
import HandS.HeadHook2
import PySem.Challenge.RW_echofield_k01_fractions
set_option Elab.async false
set_option linter.all false
set_option maxRecDepth 100000
set_option maxHeartbeats 4000000

namespace Ef
/-! Fractions: what the two halves of a tuple in lowest terms are worth. -/
theorem gcd_comm_pos {t : Int} {b : Nat} : b.gcd t.natAbs = t.natAbs.gcd b := Nat.gcd_comm _ _
theorem num_mk {t : Int} {b : Nat} (hb : b ≠ 0) : (mkRat t b).num = t / ((t.natAbs.gcd b : Nat) : Int) := by
  rw [Rat.num_mkRat, if_neg hb, Nat.gcd_comm]
theorem den_mk {t : Int} {b : Nat} (hb : b ≠ 0) : (mkRat t b).den = b / (t.natAbs.gcd b) := by
  rw [Rat.den_mkRat, if_neg hb, Nat.gcd_comm]
theorem sum_mk (p q : Rat) : mkRat (p.num * q.den + q.num * p.den) (p.den * q.den) = p + q := (Rat.add_def' p q).symm
theorem dif_mk (p q : Rat) : mkRat (p.num * q.den - q.num * p.den) (p.den * q.den) = p - q := (Rat.sub_def' p q).symm
theorem mul_mk (p q : Rat) : mkRat (p.num * q.num) (p.den * q.den) = p * q := (Rat.mul_def' p q).symm
theorem over_mk (p q : Rat) : Rat.divInt (p.num * q.den) (p.den * q.num) = p / q := by
  have h := Rat.divInt_mul_divInt p.num q.den (d₁ := p.den) (d₂ := q.num)
  rw [← h, Rat.num_divInt_den, ← Rat.inv_divInt, Rat.num_divInt_den, Rat.div_def]
theorem den_pos (q : Rat) : 0 < q.den := Nat.pos_of_ne_zero q.den_nz
theorem den_posI (q : Rat) : (0 : Int) < (q.den : Int) := Int.natCast_pos.mpr (den_pos q)
/-- small: both halves below the line -/
def Sm (q : Rat) : Prop := q.num.natAbs < 2 ^ 4500 ∧ q.den < 2 ^ 4500
theorem divInt_pos {t b : Int} (h : 0 < b) : Rat.divInt t b = mkRat t b.toNat := by
  obtain ⟨n, rfl⟩ := Int.eq_ofNat_of_zero_le (Int.le_of_lt h)
  rw [Rat.divInt_ofNat]; rfl
theorem divInt_neg {t b : Int} (h : b < 0) : Rat.divInt t b = Rat.divInt (0 - t) (0 - b) := by
  rw [Int.zero_sub, Int.zero_sub, Rat.neg_divInt_neg]
theorem mk_den_le {t : Int} {b : Nat} (hb : b ≠ 0) : (mkRat t b).den ≤ b := by
  rw [den_mk hb]
  exact Nat.div_le_self _ _
theorem mk_num_le {t : Int} {b : Nat} (hb : b ≠ 0) : (mkRat t b).num.natAbs ≤ t.natAbs := by
  rw [num_mk hb]
  have h : ((t.natAbs.gcd b : Nat) : Int) ∣ t := Int.ofNat_dvd_left.mpr (Nat.gcd_dvd_left _ _)
  rw [Int.natAbs_ediv_of_dvd h, Int.natAbs_natCast]
  exact Nat.div_le_self _ _
theorem sm_mk {t : Int} {b : Nat} (hb : b ≠ 0) (h1 : t.natAbs < 2 ^ 4500) (h2 : b < 2 ^ 4500) : Sm (mkRat t b) :=
  ⟨Nat.lt_of_le_of_lt (mk_num_le hb) h1, Nat.lt_of_le_of_lt (mk_den_le hb) h2⟩
end Ef
namespace Ef
open PySem PySem.Spec PyProof.Rows L2
/-! ### fractions in the heap -/
/-- all but the lists is as it was -/
def Kt (H H' : Hp) : Prop := ∀ b o, H b = some o → (∀ xs, o ≠ HO.lst xs) → H' b = some o
theorem Kt.refl (H : Hp) : Kt H H := fun _ _ h _ => h
theorem Kt.trans {H H1 H2 : Hp} (a : Kt H H1) (b : Kt H1 H2) : Kt H H2 := fun c o h z => b c o (a c o h z) z
theorem kt_of {H H' : Hp} (s : Same H H') : Kt H H' := fun b o h _ => s b o h
theorem Kt.set {H : Hp} {l : Addr} {xs ys : List V} (h : H l = some (.lst xs)) : Kt H (upd H l (.lst ys)) := fun b o e z => by
  have nb : b ≠ l := fun q => by
    rw [q, h] at e
    exact z _ (Option.some.inj e).symm
  rw [upd_ne nb]
  exact e
theorem Kt.new {H : Hp} {l : Addr} {u : HO} (h : H l = none) : Kt H (upd H l u) := fun b o e _ => by
  rw [upd_ne (ne_of_none e h)]
  exact e
theorem same_new {H : Hp} {l : Addr} {u : HO} (h : H l = none) : Same H (upd H l u) := fun b o e => by
  rw [upd_ne (ne_of_none e h)]
  exact e
theorem Kt.tup {K : PySem.W.Frag} {H H' : Hp} (k : Kt H H') {a : Addr} {xs : List V} (h : SqT K H a xs) : SqT K H' a xs := by
  rcases h with (h | ⟨o, h⟩) | h
  · exact .inl (.inl (k _ _ h (fun _ z => by cases z)))
  · exact .inl (.inr ⟨o, k _ _ h (fun _ z => by cases z)⟩)
  · exact .inr h
/-- at v stands the fraction q in lowest terms -/
def RatAt (K : PySem.W.Frag) (H : Hp) (v : V) (q : Rat) : Prop := ∃ a, v = .ref a ∧ SqT K H a [.int q.num, .int (q.den : Int)]
theorem RatAt.kt {K : PySem.W.Frag} {H H' : Hp} (k : Kt H H') {v : V} {q : Rat} (h : RatAt K H v q) : RatAt K H' v q := by
  obtain ⟨a, e, t⟩ := h
  exact ⟨a, e, k.tup t⟩
theorem RatAt.same {K : PySem.W.Frag} {H H' : Hp} (k : Same H H') {v : V} {q : Rat} (h : RatAt K H v q) : RatAt K H' v q := h.kt (kt_of k)
/-! ### own rules -/
section
variable {X : Cx}
/-- the top, the bottom of the fraction in slot i -/
def tNum (K : PySem.W.Frag) (i : Nat) : TE := fun σ H Q => ∃ v q, σ[i]? = some (some v) ∧ RatAt K H v q ∧ Q (.int q.num) H
def tDen (K : PySem.W.Frag) (i : Nat) : TE := fun σ H Q => ∃ v q, σ[i]? = some (some v) ∧ RatAt K H v q ∧ Q (.int (q.den : Int)) H
theorem pe_num (i : Nat) {x : Str} {p p2 pos : Pos} {j : Nat} (hN : X.N[i]? = some x := by rfl) (hv : Vis X.env.scope x := by first | exact Or.inl rfl | exact Or.inr (Or.inl rfl) | exact Or.inr (Or.inr rfl)) (hd : (x == ("__debug__" : Str)) = false := by decide)
    (hcd : (x == ("__classdict__" : Str)) = false := by decide) : PE X (.Subscript (.Name x p) (.Constant (.int 0) j p2) pos) (tNum X.K i) := by
  refine ⟨fun pins s σ H Q I h => (pe_ix ix_tup (pe_var hN hv hd hcd) pe_int (fun _ _ => rfl)).run pins s σ H Q I ?_⟩
  obtain ⟨v, q, e, ⟨a, rfl, t⟩, h⟩ := h
  exact ⟨_, e, a, _, _, _, rfl, rfl, t, rfl, h⟩
theorem pe_den (i : Nat) {x : Str} {p p2 pos : Pos} {j : Nat} (hN : X.N[i]? = some x := by rfl) (hv : Vis X.env.scope x := by first | exact Or.inl rfl | exact Or.inr (Or.inl rfl) | exact Or.inr (Or.inr rfl)) (hd : (x == ("__debug__" : Str)) = false := by decide)
    (hcd : (x == ("__classdict__" : Str)) = false := by decide) : PE X (.Subscript (.Name x p) (.Constant (.int 1) j p2) pos) (tDen X.K i) := by
  refine ⟨fun pins s σ H Q I h => (pe_ix ix_tup (pe_var hN hv hd hcd) pe_int (fun _ _ => rfl)).run pins s σ H Q I ?_⟩
  obtain ⟨v, q, e, ⟨a, rfl, t⟩, h⟩ := h
  exact ⟨_, e, a, _, _, _, rfl, rfl, t, rfl, h⟩
end
theorem ifT {c : Bool} {A B : Prop} (hc : c = true) (h : A) : if c = true then A else B := by
  rw [if_pos hc]
  exact h
theorem ifF {c : Bool} {A B : Prop} (hc : c = false) (h : B) : if c = true then A else B := by
  rw [hc, if_neg Bool.false_ne_true]
  exact h
theorem if2 {c A B : Prop} [Decidable c] (h1 : c → A) (h2 : ¬ c → B) : if decide c = true then A else B := by
  by_cases h : c
  · exact ifT (decide_eq_true h) (h1 h)
  · exact ifF (decide_eq_false h) (h2 h)
theorem ifB {c : Bool} {A B : Prop} (h1 : c = true → A) (h2 : c = false → B) : if c = true then A else B := by
  cases c with
  | true => exact ifT rfl (h1 rfl)
  | false => exact ifF rfl (h2 rfl)
/-! ### promises of the reckoning -/
/-- common: of two numbers not below nought -/
def spCommon : Sp := fun vs H Q _ => ∃ a b : Nat, vs = [.int a, .int b] ∧ Q (.int (Nat.gcd a b : Nat)) H
/-- fraction: the bottom not nought and below a line -/
def spFraction (K : PySem.W.Frag) : Sp := fun vs H Q _ => ∃ t b : Int, vs = [.int t, .int b] ∧ b ≠ 0 ∧ b.natAbs < 2 ^ 9000 ∧ ∀ p H', Same H H' → RatAt K H' (.ref p) (Rat.divInt t b) → Q (.ref p) H'
/-- the same, the bottom above nought -/
def spLow (K : PySem.W.Frag) : Sp := fun vs H Q _ => ∃ (t : Int) (b : Nat), vs = [.int t, .int b] ∧ b ≠ 0 ∧ b < 2 ^ 9000 ∧ ∀ p H', Same H H' → RatAt K H' (.ref p) (mkRat t b) → Q (.ref p) H'
/-- an operation of two small fractions -/
def spOp2 (K : PySem.W.Frag) (f : Rat → Rat → Rat) : Sp := fun vs H Q _ => ∃ u v p q, vs = [u, v] ∧ RatAt K H u p ∧ RatAt K H v q ∧ Sm p ∧ Sm q ∧ ∀ r H', Same H H' → RatAt K H' (.ref r) (f p q) → Q (.ref r) H'
def spOver (K : PySem.W.Frag) : Sp := fun vs H Q _ => ∃ u v p q, vs = [u, v] ∧ RatAt K H u p ∧ RatAt K H v q ∧ Sm p ∧ Sm q ∧ q ≠ 0 ∧ ∀ r H', Same H H' → RatAt K H' (.ref r) (p / q) → Q (.ref r) H'
theorem sm_mul {a b : Nat} (ha : a < 2 ^ 4500) (hb : b < 2 ^ 4500) : a * b < 2 ^ 9000 := by
  have h : a * b < 2 ^ 4500 * 2 ^ 4500 := Nat.mul_lt_mul'' ha hb
  have e : (2 : Nat) ^ 4500 * 2 ^ 4500 = 2 ^ 9000 := (Nat.pow_add 2 4500 4500).symm
  rw [e] at h
  exact h
theorem cm {i j : Int} (ha : i.natAbs < 2 ^ 4500) (hb : j.natAbs < 2 ^ 4500) : CMulW i j := wide_mul ha hb (by decide) (by decide) (by decide)
theorem natAbs_den (q : Rat) : ((q.den : Int)).natAbs = q.den := Int.natAbs_natCast _
theorem gcd_pos_of {a b : Nat} (hb : b ≠ 0) : 0 < Nat.gcd a b := Nat.gcd_pos_of_pos_right _ (Nat.pos_of_ne_zero hb)
theorem gcd_lt_of {a b n : Nat} (hb : b ≠ 0) (h : b < n) : Nat.gcd a b < n := Nat.lt_of_le_of_lt (Nat.le_of_dvd (Nat.pos_of_ne_zero hb) (Nat.gcd_dvd_right a b)) h
theorem rat_new {K : PySem.W.Frag} {H : Hp} {p : Addr} {q : Rat} {x y : V} (ex : x = .int q.num) (ey : y = .int (q.den : Int)) : RatAt K (upd H p (.tup [x, y])) (.ref p) q := ⟨p, rfl, by rw [ex, ey]; exact SqT.of upd_same⟩
/-! ### lists of fractions -/
def Rats (K : PySem.W.Frag) (H : Hp) (xs : List V) (qs : List Rat) : Prop := xs.length = qs.length ∧ ∀ (i : Nat) (v : V) (q : Rat), xs[i]? = some v → qs[i]? = some q → RatAt K H v q
def RL (K : PySem.W.Frag) (H : Hp) (l : Addr) (qs : List Rat) : Prop := ∃ xs, H l = some (.lst xs) ∧ Rats K H xs qs
section
variable {K : PySem.W.Frag} {H H' : Hp} {xs ys : List V} {qs ps : List Rat} {l : Addr}
theorem Rats.kt (k : Kt H H') (h : Rats K H xs qs) : Rats K H' xs qs := ⟨h.1, fun i v q a b => (h.2 i v q a b).kt k⟩
theorem Rats.nil : Rats K H [] [] := ⟨rfl, fun i v q a _ => by simp at a⟩
theorem Rats.get (h : Rats K H xs qs) {i : Nat} {q : Rat} (e : qs[i]? = some q) : ∃ v, xs[i]? = some v ∧ RatAt K H v q := by
  have hi : i < qs.length := (List.getElem?_eq_some_iff.mp e).1
  have hx : i < xs.length := by rw [h.1]; exact hi
  exact ⟨xs[i], List.getElem?_eq_getElem hx, h.2 i _ q (List.getElem?_eq_getElem hx) e⟩
theorem Rats.set (h : Rats K H xs qs) {i : Nat} {v : V} {q : Rat} (r : RatAt K H v q) : Rats K H (xs.set i v) (qs.set i q) := by
  refine ⟨by rw [List.length_set, List.length_set, h.1], fun j u p a b => ?_⟩
  rw [List.getElem?_set] at a b
  by_cases e : i = j
  · rw [if_pos e] at a b
    split at a
    · split at b
      · cases a
        cases b
        exact r
      · cases b
    · cases a
  · rw [if_neg e] at a b
    exact h.2 j u p a b
theorem Rats.append (h : Rats K H xs qs) (h2 : Rats K H ys ps) : Rats K H (xs ++ ys) (qs ++ ps) := by
  refine ⟨by rw [List.length_append, List.length_append, h.1, h2.1], fun j u p a b => ?_⟩
  rw [List.getElem?_append] at a b
  rw [h.1] at a
  split at a
  · rename_i hj
    rw [if_pos hj] at b
    exact h.2 j u p a b
  · rename_i hj
    rw [if_neg hj] at b
    exact h2.2 _ u p a b
theorem Rats.one {v : V} {q : Rat} (r : RatAt K H v q) : Rats K H [v] [q] := ⟨rfl, fun i u p a b => by
  cases i with
  | zero =>
    cases (Option.some.inj a)
    cases (Option.some.inj b)
    exact r
  | succ i => simp at a⟩
theorem Rats.push (h : Rats K H xs qs) {v : V} {q : Rat} (r : RatAt K H v q) : Rats K H (xs ++ [v]) (qs ++ [q]) := h.append (Rats.one r)
theorem Rats.cons {v : V} {q : Rat} (r : RatAt K H v q) (h : Rats K H xs qs) : Rats K H (v :: xs) (q :: qs) := (Rats.one r).append h
theorem RL.same (k : Same H H') (h : RL K H l qs) : RL K H' l qs := by
  obtain ⟨xs, e, r⟩ := h
  exact ⟨xs, k _ _ e, r.kt (kt_of k)⟩
theorem RL.kt (k : Kt H H') (h : RL K H l qs) (hl : H' l = H l) : RL K H' l qs := by
  obtain ⟨xs, e, r⟩ := h
  exact ⟨xs, hl.trans e, r.kt k⟩
theorem RL.new {p : Addr} (hp : H p = none) (r : Rats K H xs qs) : RL K (upd H p (.lst xs)) p qs := ⟨xs, upd_same, r.kt (Kt.new hp)⟩
theorem RL.upd {xs0 : List V} (h : H l = some (.lst xs0)) (r : Rats K H xs qs) : RL K (upd H l (.lst xs)) l qs := ⟨xs, upd_same, r.kt (Kt.set h)⟩
/-- an item read -/
theorem ixr {Q : VK} {z : Int} {k : Nat} {q : Rat} (h : RL K H l qs) (hq : qs[k]? = some q) (hz : z = (k : Int)) (hQ : ∀ v, RatAt K H v q → Q v H) : rIxL K (.ref l) (.int z) H Q := by
  obtain ⟨xs, e, r⟩ := h
  obtain ⟨v, e2, rv⟩ := r.get hq
  exact ⟨l, xs, z, v, rfl, rfl, SqL.of e, at_of hz e2, hQ v rv⟩
/-- the data of a fraction, of a list of them -/
def dRat (q : Rat) : PyData := .tuple [.int q.num, .int (q.den : Int)]
def dRats (qs : List Rat) : PyData := .list (qs.map dRat)
theorem RatAt.dp {v : V} {q : Rat} (h : RatAt K H v q) : Dp K H v (dRat q) := by
  obtain ⟨a, rfl, t⟩ := h
  exact .tup t (.cons (.int _) (.cons (.int _) .nil))
theorem Rats.dp : ∀ {xs : List V} {qs : List Rat}, Rats K H xs qs → DpAll K H xs (qs.map dRat)
  | [], [], _ => .nil
  | [], _ :: _, h => by cases h.1
  | _ :: _, [], h => by cases h.1
  | v :: xs, q :: qs, h => .cons (h.2 0 v q rfl rfl).dp (Rats.dp ⟨Nat.succ.inj h.1, fun i u p a b => h.2 (i + 1) u p a b⟩)
theorem RL.dp (h : RL K H l qs) : Dp K H (.ref l) (dRats qs) := by
  obtain ⟨xs, e, r⟩ := h
  exact .lst (SqL.of e) r.dp
theorem rat_ext {p q : Rat} (h1 : p.num = q.num) (h2 : (p.den : Int) = (q.den : Int)) : p = q := Rat.ext h1 (Int.ofNat.inj h2)
theorem eqv_rat (p q : Rat) : PyData.eqv (dRat p) (dRat q) = decide (p = q) := by
  show ((p.num == q.num) && (((p.den : Int) == (q.den : Int)) && true)) = decide (p = q)
  rw [Bool.and_true]
  by_cases e : p = q
  · subst e
    simp
  · rw [decide_eq_false e]
    refine Bool.eq_false_iff.mpr fun z => e ?_
    obtain ⟨z1, z2⟩ := Bool.and_eq_true_iff.mp z
    exact rat_ext (eq_of_beq z1) (eq_of_beq z2)
theorem eqv_all : ∀ (ps qs : List Rat), PyData.eqvAll (ps.map dRat) (qs.map dRat) = decide (ps = qs)
  | [], [] => rfl
  | [], _ :: _ => rfl
  | _ :: _, [] => rfl
  | p :: ps, q :: qs => by
    show (PyData.eqv (dRat p) (dRat q) && PyData.eqvAll (ps.map dRat) (qs.map dRat)) = _
    rw [eqv_rat, eqv_all ps qs]
    by_cases e : p = q
    · subst e
      by_cases e2 : ps = qs
      · subst e2
        simp
      · simp [e2]
    · simp [e]
theorem eqv_rats (ps qs : List Rat) : PyData.eqv (dRats ps) (dRats qs) = decide (ps = qs) := eqv_all ps qs
theorem sh_rat (q : Rat) : SeqAt.shaped (dRat q) = true := by rfl
end
end Ef
namespace Ef
open PySem PySem.Spec PyProof.Rows L2
theorem can_rats : ∀ qs : List Rat, PyData.canLayAll0 (qs.map dRat) = true
  | [] => rfl
  | q :: qs => by
    show (PyData.canLay0 (dRat q) && PyData.canLayAll0 (qs.map dRat)) = true
    rw [can_rats qs]
    rfl
theorem dep_rats : ∀ qs : List Rat, PyData.depthAll (qs.map dRat) ≤ 1
  | [] => by decide
  | q :: qs => by
    show max (PyData.depth (dRat q)) (PyData.depthAll (qs.map dRat)) ≤ 1
    have h1 : PyData.depth (dRat q) = 1 := rfl
    have h2 := dep_rats qs
    rw [h1]
    omega
theorem sh_rats (qs : List Rat) : SeqAt.shaped (dRats qs) = true := by
  have h1 : PyData.canLay0 (dRats qs) = true := can_rats qs
  have h2 : PyData.depth (dRats qs) ≤ 64 := by
    show PyData.depthAll (qs.map dRat) + 1 ≤ 64
    have := dep_rats qs
    omega
  show (PyData.canLay0 (dRats qs) && decide (PyData.depth (dRats qs) ≤ 64)) = true
  rw [h1, decide_eq_true h2]
  rfl
/-! ### defs by name -/
abbrev FnP (K : PySem.W.Frag) (x q : Str) (st : Stmt) (f : Addr) (fd : FuncData) : Prop := FunD K x q (defArgs st) (defBody st) (defScope st) [] [] f fd
/-- the def x of the module stands as the statement st -/
def Df (K : PySem.W.Frag) (mg : Str → Option Value) (x : Str) (st : Stmt) : Prop := ∃ f fd, FnP K x x st f fd ∧ mg x = some (.ref f)
/-- the def x of the module keeps the promise sp -/
def Gd (CX : CXT) (P : Program) (w : World) (K : PySem.W.Frag) (mg : Str → Option Value) (base : Heap) (k : Nat) (x : Str) (ps : List Str) (sp : Sp) : Prop :=
  ∃ f fd, FnOk P w K mg base CX k f fd ps sp ∧ mg x = some (.ref f) ∧ PySem.W.keepIn K (.ref f) = true ∧ Binds K fd ps []
section
variable {CX : CXT} {P : Program} {w : World} {K : PySem.W.Frag} {mg : Str → Option Value} {base : Heap} {x : Str} {st : Stmt} {N ps : List Str} {k : Nat} {sp : Sp}
def Gf (CX : CXT) (P : Program) (w : World) (K : PySem.W.Frag) (mg : Str → Option Value) (base : Heap) (k : Nat) (x : Str) (st : Stmt) (ps : List Str) (sp : Sp) : Prop := ∀ f fd, FnP K x x st f fd → FnOk P w K mg base CX k f fd ps sp
theorem gf_of (S : FnScope N ps (defScope st)) (len : ∀ vs H Q E, sp vs H Q E → vs.length = ps.length)
    (body : ∀ (f : Addr) (cdv : Value) (A : Around) (outer : List Env) (s : Shared) (H : Hp) (vs : List V) (Q : VK) (E : XK), Room k (A.deeper (envOfC x (defScope st) s.heap.objs.size f cdv)) → sp vs H Q E →
      ∃ t, PSs (cxOf CX P w K mg base N x (defScope st) f cdv A outer s H E) (defBody st) t ∧ t { nx := fun _ H' => Q .non H', rt := Q } (start N vs) H) : Gf CX P w K mg base (k + 1) x st ps sp :=
  fun f _ F => F.ok S len (body f)
theorem gd_of (D : Df K mg x st) (S : FnScope N ps (defScope st))
    (hb : ∀ (kV doc pm : Value) (an : Option Addr) (cdv ct : Value) (us : List Value), us.length = ps.length → bindArgs (PySem.W.fnOf x x (defArgs st) (defBody st) (defScope st) .none kV doc pm an cdv ct) ⟨us, []⟩ = pure (ps.zip us))
    (len : ∀ vs H Q E, sp vs H Q E → vs.length = ps.length)
    (body : ∀ (f : Addr) (cdv : Value) (A : Around) (outer : List Env) (s : Shared) (H : Hp) (vs : List V) (Q : VK) (E : XK), Room k (A.deeper (envOfC x (defScope st) s.heap.objs.size f cdv)) → sp vs H Q E →
      ∃ t, PSs (cxOf CX P w K mg base N x (defScope st) f cdv A outer s H E) (defBody st) t ∧ t { nx := fun _ H' => Q .non H', rt := Q } (start N vs) H) : Gd CX P w K mg base (k + 1) x ps sp := by
  obtain ⟨f, fd, F, g⟩ := D
  exact ⟨f, fd, gf_of S len body f fd F, g, F.kp, F.bindsN hb⟩
end
section
variable {X : Cx} {k j : Nat} {x : Str} {ps : List Str} {sp : Sp} {e : Expr} {es : List Expr} {t : TA} {p pos : Pos}
/-- f(e, ..) -/
theorem pe_gd (G : Gd CX0 X.prog X.w X.K X.mg X.base j x ps sp) (hr : Room k X.A) (ha : PA X (e :: es) t) (hjk : j ≤ k := by decide) (hg : Gl X x := by rfl) (hdb : (x == ("__debug__" : Str)) = false := by decide)
    (he : starEach (e :: es) X.env = (false, eval e X.env) :: starEach es X.env := by rfl) (hpl : (backTo pos (starEach es X.env)).any (·.1) = false := by rfl) :
    PE X (.Call (.Name x p) (e :: es) [] pos) (tCall sp [] E0 t) := by
  obtain ⟨f, fd, F, g, kp, b⟩ := G
  exact pe_call F (hr.mono hjk) hg g kp b .nil pass0 ha hdb he hpl
end
end Ef
namespace Ef
open PySem PySem.Spec PyProof.Rows L2
/-! ### facts for the walks of the reckoning -/
theorem abs_int (t : Int) : (if t < 0 then -t else t) = ((t.natAbs : Nat) : Int) := by split <;> omega
theorem low_facts (t b' : Int) (n : Nat) (eb : b' = (n : Int)) (hn : n ≠ 0) (hl : n < 2 ^ 9000) :
    CDivW t (Nat.gcd t.natAbs n : Nat) ∧ CDivW b' (Nat.gcd t.natAbs n : Nat) ∧ t / ((Nat.gcd t.natAbs n : Nat) : Int) = (mkRat t n).num ∧ b' / ((Nat.gcd t.natAbs n : Nat) : Int) = ((mkRat t n).den : Int) := by
  subst eb
  have g1 : 0 < Nat.gcd t.natAbs n := gcd_pos_of hn
  have g2 : Nat.gcd t.natAbs n < 2 ^ 9000 := gcd_lt_of hn hl
  have g3 : ((Nat.gcd t.natAbs n : Nat) : Int).natAbs < 2 ^ 9000 := by rw [Int.natAbs_natCast]; exact g2
  refine ⟨wide_div (by omega) g3 (by decide) (by decide), wide_div (by omega) g3 (by decide) (by decide), (num_mk hn).symm, ?_⟩
  rw [den_mk hn, Int.natCast_ediv]
theorem den_mul_facts {p q : Rat} (p2 : p.den < 2 ^ 4500) (q2 : q.den < 2 ^ 4500) :
    (p.den : Int) * (q.den : Int) ≠ 0 ∧ ((p.den : Int) * (q.den : Int)).natAbs < 2 ^ 9000 ∧ ∀ t : Int, Rat.divInt t ((p.den : Int) * (q.den : Int)) = mkRat t (p.den * q.den) := by
  have e : (p.den : Int) * (q.den : Int) = ((p.den * q.den : Nat) : Int) := (Int.natCast_mul _ _).symm
  refine ⟨?_, ?_, fun t => ?_⟩
  · exact Int.ne_of_gt (Int.mul_pos (den_posI p) (den_posI q))
  · rw [e, Int.natAbs_natCast]
    exact sm_mul p2 q2
  · rw [e, Rat.divInt_ofNat]
theorem den_num_facts {p q : Rat} (p2 : p.den < 2 ^ 4500) (q1 : q.num.natAbs < 2 ^ 4500) (hq : q ≠ 0) :
    (p.den : Int) * q.num ≠ 0 ∧ ((p.den : Int) * q.num).natAbs < 2 ^ 9000 := by
  have h0 : q.num ≠ 0 := fun z => hq (Rat.num_eq_zero.mp z)
  have h1 : (p.den : Int) ≠ 0 := Int.ne_of_gt (den_posI p)
  refine ⟨fun z => (Int.mul_eq_zero.mp z).elim h1 h0, ?_⟩
  rw [Int.natAbs_mul, Int.natAbs_natCast]
  exact sm_mul p2 q1
theorem den_args (t : Int) (p q : Rat) : [V.int t, V.int ((p.den : Int) * (q.den : Int))] ++ [] = [V.int t, V.int ((p.den * q.den : Nat) : Int)] := by
  rw [Int.natCast_mul]
  rfl
/-! ### the built-in names that no module binds -/
structure Bt (mg : Str → Option Value) : Prop where
  len : mg "len" = none
  abs : mg "abs" = none
  range : mg "range" = none
  isi : mg "isinstance" = none
  int : mg "int" = none
  bool : mg "bool" = none
  list : mg "list" = none
  tuple : mg "tuple" = none
  str : mg "str" = none
  rev : mg "reversed" = none
/-! ### the law's own helpers -/
/-- the script: read, never changed -/
def Scr (K : PySem.W.Frag) (H : Hp) (a : Addr) (ns : List Int) : Prop := SqL K H a (ns.map V.int) ∧ ∀ xs, H a ≠ some (.lst xs)
theorem Scr.kt {K : PySem.W.Frag} {H H' : Hp} {a : Addr} {ns : List Int} (k : Kt H H') (h : Scr K H a ns) : SqL K H' a (ns.map V.int) := by
  obtain ⟨h1, h2⟩ := h
  rcases h1 with (h | ⟨o, h⟩) | h
  · exact absurd h (h2 _)
  · exact .inl (.inr ⟨o, k _ _ h (fun _ z => by cases z)⟩)
  · exact .inr h
def cellAt (ns : List Int) (k : Nat) : Int := ns.getD k 0
def spCellAt (K : PySem.W.Frag) : Sp := fun vs H Q _ => ∃ (a : Addr) (ns : List Int) (k : Nat), vs = [.ref a, .int (k : Int)] ∧ SqL K H a (ns.map V.int) ∧ Q (.int (cellAt ns k)) H
def spWhole : Sp := fun vs H Q _ => ∃ i : Int, vs = [.int i] ∧ Q (.bl true) H
/-- 0 - other, laid as a tuple -/
theorem neg_new {K : PySem.W.Frag} {H : Hp} {p : Addr} {q : Rat} : RatAt K (upd H p (.tup [.int (0 - q.num), .int (q.den : Int)])) (.ref p) (-q) := rat_new (by rw [Rat.neg_num, Int.zero_sub]) (by rw [Rat.neg_den])
theorem sm_neg {q : Rat} (h : Sm q) : Sm (-q) := ⟨by rw [Rat.neg_num, Int.natAbs_neg]; exact h.1, h.2⟩
/-- two lists of fractions are the same -/
def spParts (K : PySem.W.Frag) : Sp := fun vs H Q _ => ∃ (l m : Addr) (qs ps : List Rat), vs = [.ref l, .ref m] ∧ RL K H l qs ∧ RL K H m ps ∧ ps.length ≤ 1000 ∧ Q (.bl (decide (qs = ps))) H
theorem tyx_tup {K : PySem.W.Frag} {H : Hp} {a : Addr} {xs : List V} (h : SqT K H a xs) : TyX K H (.ref a) (.type "tuple") := by
  rcases h with (h | ⟨o, h⟩) | ⟨o, _, _, h, c, _⟩
  · exact .base (.tup h)
  · exact .fTuple h
  · exact .kTuple h c
theorem op_mul_str {X : Cx} : OpR X (binaryOp .Mult) (fun x y H Q => ∃ z n, x = .str z ∧ y = .int n ∧ MulOk z n ∧ Q (.str (Txt.mul z n)) H) := by
  intro pins s σ H x y v u Q I rx ry h
  obtain ⟨z, n, rfl, rfl, hz, q⟩ := h
  obtain ⟨t, rfl⟩ := rx
  obtain ⟨t', rfl⟩ := ry
  exact PySem.SB.mul hz (fun t' k => ⟨.str (Txt.mul z n), H, I.tok _, ⟨_, rfl⟩, q⟩)
/-- the law: a script handed in, True comes out -/
def spLaw (K : PySem.W.Frag) : Sp := fun vs H Q _ => ∃ (a : Addr) (ns : List Int), vs = [.ref a] ∧ Scr K H a ns ∧ ns.length ≤ 63 ∧ ∀ H', Q (.bl true) H'
/-- law 1: a fraction by a number -/
def spFrac1 (K : PySem.W.Frag) : Sp := fun vs H Q _ => ∃ (c : Int), vs = [.int c] ∧ ∀ r H' q, Same H H' → Sm q → RatAt K H' (.ref r) q → Q (.ref r) H'
/-- law 1: what was told is what is due -/
def spSame (K : PySem.W.Frag) : Sp := fun vs H Q _ => ∃ (v : V) (q : Rat) (t b : Int), vs = [v, .int t, .int b] ∧ RatAt K H v q ∧ b ≠ 0 ∧ b.natAbs < 2 ^ 9000 ∧ ∀ H', Same H H' → Q (.bl (decide (q = Rat.divInt t b))) H'
/-- an item of a written list of ints at a reckoned place -/
theorem ix_ints {K : PySem.W.Frag} {H : Hp} {Q : VK} {p : Addr} {bs : List Int} {z : Int} (hp : H p = some (.lst (bs.map V.int))) (h0 : 0 ≤ z) (h1 : z < bs.length) (hQ : ∀ b ∈ bs, Q (.int b) H) : rIxL K (.ref p) (.int z) H Q := by
  obtain ⟨n, rfl⟩ := Int.eq_ofNat_of_zero_le h0
  have hn : n < bs.length := by omega
  refine ⟨p, _, _, .int bs[n], rfl, rfl, SqL.of hp, atI_nat ?_, hQ _ (List.getElem_mem hn)⟩
  rw [List.getElem?_map, List.getElem?_eq_getElem hn]
  rfl
end Ef
namespace Ef
open PySem PySem.Spec PyProof.Rows L2
/-! ### the head: facts by names, and one test of our own -/
abbrev AlX : Type := He.AlD × Bool
def obsX (fa : List He.Fa) (fn : List He.DefD) (xb : PySem.W.Frag → Bool) (K : PySem.W.Frag) : AlX := (He.obsD fa fn K, xb K)
def obsXG (n : Nat) (fa : List He.Fa) (fn : List He.DefD) (xb : PySem.W.Frag → Bool) (g : Addr → Option Obj) : AlX := obsX fa fn xb (He.frG g (He.asD g n))
def SaysX (fa : List He.Fa) (fn : List He.DefD) (xb : PySem.W.Frag → Bool) (K : PySem.W.Frag) : Prop := obsX fa fn xb K = (He.valD fn, true)
def hookX (n : Nat) (fa : List He.Fa) (fn : List He.DefD) (xb : PySem.W.Frag → Bool) : PySem.W.Hook where
  α := AlX
  obs := fun s => obsXG n fa fn xb s.heap.get?
  val := fun _ => (He.valD fn, true)
  says := fun _ h => ∃ K : PySem.W.Frag, K.In h ∧ SaysX fa fn xb K
  of := fun _ _ e => ⟨_, He.frG_in, e⟩
  keeps := fun _ _ _ ⟨K, hK, c⟩ k => ⟨K, PySem.W.Frag.In.keeps hK k, c⟩
theorem obsXG_eq {n : Nat} {fa : List He.Fa} {fn : List He.DefD} {xb : PySem.W.Frag → Bool} {g : Addr → Option Obj} {s : Shared} (h : ∀ a, g a = s.heap.get? a) : obsXG n fa fn xb g = (hookX n fa fn xb).obs s := by
  have e : g = s.heap.get? := funext h
  rw [e] <;> rfl
theorem SaysX.d {fa : List He.Fa} {fn : List He.DefD} {xb : PySem.W.Frag → Bool} {K : PySem.W.Frag} (c : SaysX fa fn xb K) : He.SaysD fa fn K := congrArg Prod.fst c
theorem SaysX.x {fa : List He.Fa} {fn : List He.DefD} {xb : PySem.W.Frag → Bool} {K : PySem.W.Frag} (c : SaysX fa fn xb K) : xb K = true := congrArg Prod.snd c
def dfD (x : Str) (st : Stmt) : He.DefD := ⟨(x, none), x, x, defArgs st, defBody st, defScope st, [], []⟩
def mtD (C m q : Str) (st : Stmt) : He.DefD := ⟨(C, some m), m, q, defArgs st, defBody st, defScope st, [], []⟩
section
variable {fa : List He.Fa} {fn : List He.DefD} {xb : PySem.W.Frag → Bool} {K : PySem.W.Frag} {h : Heap} {mg : Str → Option Value}
theorem df_of (c : SaysX fa fn xb K) (X : K.In h) (G : h.Ns mainGlobals mg) (i j : Nat) {x : Str} {st : Stmt} (hd : fn[i]? = some (dfD x st) := by rfl) (hf : fa[j]? = some (.glo x) := by rfl) : Df K mg x st := by
  obtain ⟨fd, F⟩ := c.d.def_ i hd
  exact ⟨_, fd, F, He.glo_ok X G (c.d.fact j hf)⟩
end
def btNames : List Str := ["len", "abs", "range", "isinstance", "int", "bool", "list", "tuple", "str", "reversed"]
def btFa : List He.Fa := btNames.map He.Fa.free
theorem bt_of {fn : List He.DefD} {xb : PySem.W.Frag → Bool} {K : PySem.W.Frag} {h : Heap} {mg : Str → Option Value} {fa : List He.Fa} (c : SaysX (btFa ++ fa) fn xb K) (X : K.In h) (G : h.Ns mainGlobals mg) : Bt mg :=
  ⟨He.free_ok X G (c.d.fact 0 (f := .free "len") rfl), He.free_ok X G (c.d.fact 1 (f := .free "abs") rfl), He.free_ok X G (c.d.fact 2 (f := .free "range") rfl), He.free_ok X G (c.d.fact 3 (f := .free "isinstance") rfl), He.free_ok X G (c.d.fact 4 (f := .free "int") rfl),
   He.free_ok X G (c.d.fact 5 (f := .free "bool") rfl), He.free_ok X G (c.d.fact 6 (f := .free "list") rfl), He.free_ok X G (c.d.fact 7 (f := .free "tuple") rfl), He.free_ok X G (c.d.fact 8 (f := .free "str") rfl), He.free_ok X G (c.d.fact 9 (f := .free "reversed") rfl)⟩
/-- the script as the law is handed it -/
theorem scr_of {K : PySem.W.Frag} {H : Hp} {a : Addr} {ns : List Int} (hO : Only H) (hS : SqL K H a (ns.map V.int)) : Scr K H a ns := by
  refine ⟨hS, fun xs e => ?_⟩
  rcases hO a with z | ⟨o, ys, z⟩
  · rw [e] at z
    cases z
  · rw [e] at z
    cases z
end Ef
namespace Ef
open PySem PySem.Spec PyProof.Rows L2
def topS (i : Nat) : Stmt := PySem.Challenge.pw_echofield_k01_fractions.main.body.getD i (.Pass ⟨0, 0, 0, 0⟩)
abbrev s_law_cell_at : Stmt := topS 8
abbrev s_law_low : Stmt := topS 10
abbrev s_law_fraction : Stmt := topS 15
abbrev s_law_whole : Stmt := topS 9
abbrev s_law_parts : Stmt := topS 14
abbrev s_law_same : Stmt := topS 16
abbrev s_common : Stmt := topS 1
abbrev s_fraction : Stmt := topS 2
abbrev s_plus : Stmt := topS 3
abbrev s_minus : Stmt := topS 4
abbrev s_times : Stmt := topS 5
abbrev s_over : Stmt := topS 6
abbrev s_law : Stmt := topS 17
section
variable {P : Program} {w : World} {K : PySem.W.Frag} {mg : Str → Option Value} {base : Heap}

theorem sc_law_cell_at : FnScope ["script", "k"] ["script", "k"] (defScope s_law_cell_at) := ⟨rfl, rfl, rfl, by decide +kernel, rfl, by decide +kernel, by decide +kernel⟩
theorem ok_law_cell_at (D : Df K mg "_law_cell_at" s_law_cell_at) (B : Bt mg) : Gd CX0 P w K mg base 1 "_law_cell_at" ["script", "k"] (spCellAt K) := by
  refine gd_of D sc_law_cell_at (fun _ _ _ _ _ _ us hl => match us, hl with | [_, _], _ => rfl) (fun vs H Q E h => ?_) (fun f cdv A outer s H vs Q E hr h => ?_)
  · obtain ⟨a, ns, k, rfl, _⟩ := h
    rfl
  · obtain ⟨a, ns, k, rfl, hS, q⟩ := h
    refine ⟨_, PSs.nox (pss_cons (ps_if (pt_cmpR op_lt (pv 1) (pe_callB call_len_seq (by rfl) B.len (by decide +kernel) (pa_cons (pv 0) pa_nil)) (nomark _)) (pss_one (ps_ret (pe_ix ix_list (pv 0) (pv 1) (fun _ _ => rfl)))) pss_nil)
      (pss_one (ps_ret pe_int))), ?_⟩
    refine ⟨_, rfl, _, rfl, a, _, rfl, .inl hS, _, _, rfl, rfl, _, rfl, ?_⟩
    rw [List.length_map]
    refine if2 (fun hk => ?_) (fun hk => ?_)
    · have hk : k < ns.length := by omega
      refine ⟨_, rfl, _, rfl, a, _, _, .int (cellAt ns k), rfl, rfl, hS, atI_nat ?_, q⟩
      rw [List.getElem?_map, List.getElem?_eq_getElem hk]
      show some (V.int ns[k]) = some (V.int (ns.getD k 0))
      rw [List.getD_eq_getElem?_getD, List.getElem?_eq_getElem hk]
      rfl
    · have e : cellAt ns k = 0 := by
        unfold cellAt
        rw [List.getD_eq_getElem?_getD, List.getElem?_eq_none (by omega)]
        rfl
      rw [e] at q
      exact q

theorem sc_law_low : FnScope ["top", "bottom", "one", "other", "rest"] ["top", "bottom"] (defScope s_law_low) := ⟨rfl, rfl, rfl, by decide +kernel, rfl, by decide +kernel, by decide +kernel⟩
theorem ok_law_low (D : Df K mg "_law_low" s_law_low) (B : Bt mg) : Gd CX0 P w K mg base 1 "_law_low" ["top", "bottom"] (spLow K) := by
  refine gd_of D sc_law_low (fun _ _ _ _ _ _ us hl => match us, hl with | [_, _], _ => rfl) (fun vs H Q E h => ?_) (fun f cdv A outer s H vs Q E hr h => ?_)
  · obtain ⟨t, b, rfl, _⟩ := h
    rfl
  · obtain ⟨t, b, rfl, hb, hl, k⟩ := h
    refine ⟨_, PSs.nox (pss_cons (ps_set (i := 2) sc_law_low.nd rfl (Or.inl rfl) (pe_callB call_abs (by rfl) B.abs (by decide +kernel) (pa_cons (pv 0) pa_nil)))
      (pss_cons (ps_set (i := 3) sc_law_low.nd rfl (Or.inl rfl) (pv 1))
      (pss_cons (ps_while PassesOwn.never (pt_cmpR op_gt (pv 3) pe_int (nomark _)) (pss_cons (ps_set (i := 4) sc_law_low.nd rfl (Or.inl rfl) (pe_op op_modN (pv 2) (pv 3))) (pss_cons (ps_set (i := 2) sc_law_low.nd rfl (Or.inl rfl) (pv 3)) (pss_one (ps_set (i := 3) sc_law_low.nd rfl (Or.inl rfl) (pv 4))))))
      (pss_one (ps_ret (pe_tup (pa_cons (pe_op op_fdivW (pv 0) (pv 2)) (pa_cons (pe_op op_fdivW (pv 1) (pv 2)) pa_nil)))))))), ?_⟩
    refine ⟨_, rfl, _, rfl, _, rfl, ?_⟩
    obtain ⟨c1, c2, e1, e2⟩ := low_facts t b b rfl hb hl
    refine ⟨fun m σ H1 => H1 = H ∧ ∃ (x y : Nat) (r : Option V), σ = [some (.int t), some (.int (b : Nat)), some (.int x), some (.int y), r] ∧ m = y ∧ Nat.gcd x y = Nat.gcd t.natAbs b,
      ⟨b, rfl, t.natAbs, b, none, congrArg (fun z => [some (V.int t), some (V.int (b : Nat)), some (V.int z), some (V.int (b : Nat)), none]) (abs_int t), rfl, rfl⟩, ?_⟩
    rintro m σ H1 ⟨rfl, x, y, r, rfl, rfl, eg⟩
    refine ⟨_, rfl, _, _, rfl, rfl, _, rfl, ?_⟩
    refine if2 (fun hy => ?_) (fun hy => ?_)
    · have hy : 0 < m := by omega
      refine ⟨fun σ' H' => H' = H1 ∧ ∃ r : Option V, σ' = [some (.int t), some (.int (b : Nat)), some (.int (m : Nat)), some (.int ((x % m : Nat) : Int)), r], ?_, ?_⟩
      · rintro σ' H' ⟨rfl, r', rfl⟩
        refine ⟨x % m, Nat.mod_lt _ hy, rfl, m, x % m, r', rfl, rfl, ?_⟩
        rw [← eg, Nat.gcd_comm x m, Nat.gcd_rec m x, Nat.gcd_comm m]
      · refine ⟨_, rfl, _, rfl, _, _, rfl, rfl, (by omega), ?_⟩
        refine ⟨_, rfl, _, rfl, rfl, some (.int ((x % m : Nat) : Int)), ?_⟩
        have ef : Int.fmod (x : Int) (m : Int) = ((x % m : Nat) : Int) := by rw [Int.fmod_eq_emod_of_nonneg _ (by omega)]; rfl
        exact congrArg (fun z => [some (V.int t), some (V.int (b : Nat)), some (V.int (m : Nat)), some (V.int z), some (V.int z)]) ef
    · have e : m = 0 := by omega
      subst e
      rw [Nat.gcd_zero_right] at eg
      subst eg
      refine ⟨_, rfl, _, rfl, _, _, rfl, rfl, c1, _, rfl, _, rfl, _, _, rfl, rfl, c2, (by show 2 ≤ sizeLine; decide), fun p hp => ?_⟩
      exact k p _ (same_new hp) (rat_new (congrArg V.int e1) (congrArg V.int e2))

theorem sc_law_fraction : FnScope ["cell", "bottom", "most"] ["cell"] (defScope s_law_fraction) := ⟨rfl, rfl, rfl, by decide +kernel, rfl, by decide +kernel, by decide +kernel⟩
theorem ok_law_fraction (D : Df K mg "_law_fraction" s_law_fraction) (B : Bt mg) (g_law_low : Gd CX0 P w K mg base 1 "_law_low" ["top", "bottom"] (spLow K)) : Gd CX0 P w K mg base 2 "_law_fraction" ["cell"] (spFrac1 K) := by
  refine gd_of D sc_law_fraction (fun _ _ _ _ _ _ us hl => match us, hl with | [_], _ => rfl) (fun vs H Q E h => ?_) (fun f cdv A outer s H vs Q E hr h => ?_)
  · obtain ⟨c, rfl, _⟩ := h
    rfl
  · obtain ⟨c, rfl, k⟩ := h
    refine ⟨_, PSs.nox (pss_cons (ps_set (i := 1) sc_law_fraction.nd rfl (Or.inl rfl) (pe_ix ix_list (pe_lst (pa_cons pe_int (pa_cons pe_int (pa_cons pe_int (pa_cons pe_int (pa_cons pe_int (pa_cons pe_int pa_nil))))))) (pe_op op_mod (pv 0) pe_int) (fun _ _ => rfl)))
      (pss_cons (ps_set (i := 2) sc_law_fraction.nd rfl (Or.inl rfl) (pe_ix ix_list (pe_lst (pa_cons pe_int (pa_cons pe_int (pa_cons (pe_op op_pow pe_int pe_int) pa_nil)))) (pe_op op_mod (pe_op op_fdiv (pv 0) pe_int) pe_int) (fun _ _ => rfl)))
      (pss_one (ps_ret (pe_gd g_law_low hr (pa_cons (pe_op op_sub (pe_op op_mod (pe_op op_fdiv (pv 0) pe_int) (pe_op op_add (pe_op op_mul pe_int (pv 2)) pe_int)) (pv 2)) (pa_cons (pv 1) pa_nil))))))), ?_⟩
    refine ⟨(by show 6 ≤ sizeLine; decide), fun p hp => ?_⟩
    refine ⟨_, rfl, _, _, rfl, rfl, (by show (0 : Int) < 6; decide), ix_ints (bs := [1, 1, 2, 3, 7, 1000003]) upd_same (Int.emod_nonneg _ (by decide)) (Int.emod_lt_of_pos _ (by decide)) fun b hb => ?_⟩
    have hb2 : 1 ≤ b ∧ b ≤ 1000003 := (by decide : ∀ b ∈ ([1, 1, 2, 3, 7, 1000003] : List Int), 1 ≤ b ∧ b ≤ 1000003) b hb
    refine ⟨_, _, rfl, rfl, ⟨by decide, by decide, by decide⟩, (by show 3 ≤ sizeLine; decide), fun p2 hp2 => ?_⟩
    refine ⟨_, rfl, _, _, rfl, rfl, ⟨by decide, by decide⟩, _, _, rfl, rfl, (by show (0 : Int) < 3; decide), ix_ints (bs := [9, 99, 10 ^ 12]) upd_same (Int.emod_nonneg _ (by decide)) (Int.emod_lt_of_pos _ (by decide)) fun m hm => ?_⟩
    have hm2 : 1 ≤ m ∧ m ≤ 10 ^ 12 := (by decide : ∀ b ∈ ([9, 99, 10 ^ 12] : List Int), 1 ≤ b ∧ b ≤ 10 ^ 12) m hm
    refine ⟨_, rfl, _, _, rfl, rfl, ⟨by decide, by decide⟩, _, rfl, _, _, rfl, rfl, .inl (by decide), _, _, rfl, rfl, _, _, rfl, rfl, (by show (0 : Int) < 2 * m + 1; omega), _, rfl, _, _, rfl, rfl, _, rfl, ?_⟩
    obtain ⟨n, rfl⟩ := Int.eq_ofNat_of_zero_le (show 0 ≤ b by omega)
    have e1 : 0 ≤ c / 18 % (2 * m + 1) := Int.emod_nonneg _ (by omega)
    have e2 : c / 18 % (2 * m + 1) < 2 * m + 1 := Int.emod_lt_of_pos _ (by omega)
    have e3 : (c / 18 % (2 * m + 1) - m).natAbs < 2 ^ 4500 := Nat.lt_of_lt_of_le (m := 2 ^ 40) (by omega) (Nat.pow_le_pow_right (by decide) (by decide))
    have e4 : n < 2 ^ 4500 := Nat.lt_of_lt_of_le (m := 2 ^ 40) (by omega) (Nat.pow_le_pow_right (by decide) (by decide))
    refine ⟨_, n, rfl, (by omega), Nat.lt_of_lt_of_le e4 (Nat.pow_le_pow_right (by decide) (by decide)), fun r H' s hr => ?_⟩
    exact k r H' _ ((same_new hp).trans ((same_new hp2).trans s)) (sm_mk (by omega) e3 e4) hr

theorem sc_law_whole : FnScope ["found"] ["found"] (defScope s_law_whole) := ⟨rfl, rfl, rfl, by decide +kernel, rfl, by decide +kernel, by decide +kernel⟩
theorem ok_law_whole (D : Df K mg "_law_whole" s_law_whole) (B : Bt mg) : Gd CX0 P w K mg base 1 "_law_whole" ["found"] (spWhole) := by
  refine gd_of D sc_law_whole (fun _ _ _ _ _ _ us hl => match us, hl with | [_], _ => rfl) (fun vs H Q E h => ?_) (fun f cdv A outer s H vs Q E hr h => ?_)
  · obtain ⟨i, rfl, _⟩ := h
    rfl
  · obtain ⟨i, rfl, q⟩ := h
    refine ⟨_, PSs.nox (pss_one (ps_ret (pe_and (pe_callB call_isi (by rfl) B.isi (by decide +kernel) (pa_cons (pv 0) (pa_cons (pe_bltn (v := .ty "int") (by rfl) B.int (by decide +kernel) rfl) pa_nil))) (pe_one (pe_not (pe_callB call_isi (by rfl) B.isi (by decide +kernel) (pa_cons (pv 0) (pa_cons (pe_bltn (v := .ty "bool") (by rfl) B.bool (by decide +kernel) rfl) pa_nil)))))))), ?_⟩
    refine ⟨_, rfl, _, _, _, _, true, rfl, .ty _, .base (.int i), kit_ty (by decide +kernel), true, rfl, ifT rfl ?_⟩
    exact ⟨_, rfl, _, _, _, _, false, rfl, .ty _, .base (.int i), kit_ty (by decide +kernel), false, rfl, q⟩

theorem sc_law_parts : FnScope ["found", "due", "k", "part"] ["found", "due"] (defScope s_law_parts) := ⟨rfl, rfl, rfl, by decide +kernel, rfl, by decide +kernel, by decide +kernel⟩
theorem ok_law_parts (D : Df K mg "_law_parts" s_law_parts) (B : Bt mg) (g_law_whole : Gd CX0 P w K mg base 1 "_law_whole" ["found"] (spWhole)) : Gd CX0 P w K mg base 2 "_law_parts" ["found", "due"] (spParts K) := by
  refine gd_of D sc_law_parts (fun _ _ _ _ _ _ us hl => match us, hl with | [_, _], _ => rfl) (fun vs H Q E h => ?_) (fun f cdv A outer s H vs Q E hr h => ?_)
  · obtain ⟨l, m, qs, ps, rfl, _⟩ := h
    rfl
  · obtain ⟨l, m, qs, ps, rfl, hl, hm, hn, k⟩ := h
    refine ⟨_, PSs.nox (pss_cons (ps_if (PW.pt (pw_or (pt_not (pt_val (pe_callB call_isi (by rfl) B.isi (by decide +kernel) (pa_cons (pv 0) (pa_cons (pe_bltn (v := .ty "list") (by rfl) B.list (by decide +kernel) rfl) pa_nil))))) (pw_or1 (pt_cmpR op_ne (pe_callB call_len_seq (by rfl) B.len (by decide +kernel) (pa_cons (pv 0) pa_nil)) (pe_callB call_len_seq (by rfl) B.len (by decide +kernel) (pa_cons (pv 1) pa_nil)) (nomark _))))) (pss_one (ps_ret pe_bl)) pss_nil)
      (pss_cons (ps_for PassesOwn.never rfl (pi_range1 (by rfl) B.range (pa_cons (pe_callB call_len_seq (by rfl) B.len (by decide +kernel) (pa_cons (pv 1) pa_nil)) pa_nil)) (pg_name (i := 2) sc_law_parts.nd rfl (Or.inl rfl)) (pss_cons (ps_set (i := 3) sc_law_parts.nd rfl (Or.inl rfl) (pe_ix ix_list (pv 0) (pv 2) (fun _ _ => rfl))) (pss_cons (ps_if (PW.pt (pw_or (pt_not (pt_val (pe_callB call_isi (by rfl) B.isi (by decide +kernel) (pa_cons (pv 3) (pa_cons (pe_bltn (v := .ty "tuple") (by rfl) B.tuple (by decide +kernel) rfl) pa_nil))))) (pw_or (pt_cmpR op_ne (pe_callB call_len_seq (by rfl) B.len (by decide +kernel) (pa_cons (pv 3) pa_nil)) pe_int (nomark _)) (pw_or (pt_not (pt_val (pe_gd g_law_whole hr (pa_cons (pe_num 3) pa_nil)))) (pw_or1 (pt_not (pt_val (pe_gd g_law_whole hr (pa_cons (pe_den 3) pa_nil))))))))) (pss_one (ps_ret pe_bl)) pss_nil) (pss_one (ps_if (pt_cmpR (op_neD hr.units) (pv 3) (pe_ix ix_list (pv 1) (pv 2) (fun _ _ => rfl)) (nomark _)) (pss_one (ps_ret pe_bl)) pss_nil)))))
      (pss_one (ps_ret pe_bl)))), ?_⟩
    obtain ⟨xs, ex, rx⟩ := id hl
    obtain ⟨ys, ey, ry⟩ := id hm
    refine ⟨_, rfl, _, _, _, _, true, rfl, .ty _, .base (.lst ex), kit_ty (by decide +kernel), true, rfl, ifF rfl ?_⟩
    refine ⟨_, rfl, l, xs, rfl, .inl (SqL.of ex), _, rfl, m, ys, rfl, .inl (SqL.of ey), rfl, _, rfl, ?_⟩
    rw [rx.1, ry.1]
    refine ifB (fun hne => ?_) (fun hne => ?_)
    · have e : ¬ qs = ps := fun z => by
        subst z
        simp at hne
      rw [decide_eq_false e] at k
      exact k
    · have el : qs.length = ps.length := by
        have h1 : decide (V.int (qs.length : Int) = V.int (ps.length : Int)) = true := by simpa using hne
        have h2 := V.int.inj (of_decide_eq_true h1)
        omega
      refine ⟨_, rfl, m, ys, rfl, .inl (SqL.of ey), (ys.length : Int), rfl, by rw [ry.1]; omega, by rw [ry.1]; omega, ?_⟩
      rw [ry.1, Int.toNat_natCast]
      refine for_range (lo := 0) (n := ps.length) (fun i σ H' => H' = H ∧ qs.take i = ps.take i ∧ ∃ kv pv : Option V, σ = [some (.ref l), some (.ref m), kv, pv]) ⟨rfl, by rw [List.take_zero, List.take_zero], none, none, rfl⟩ ?_ ?_
      · rintro i σ H' hi ⟨rfl, et, kv, pv', rfl⟩
        have g1 : qs[i]? = some (qs[i]'(by omega)) := List.getElem?_eq_getElem (by omega)
        have g2 : ps[i]? = some ps[i] := List.getElem?_eq_getElem hi
        refine ⟨_, rfl, _, rfl, ixr hl g1 (by omega) fun v hv => ?_⟩
        obtain ⟨a, rfl, ha⟩ := id hv
        refine ⟨_, rfl, _, _, _, _, true, rfl, .ty _, tyx_tup ha, kit_ty (by decide +kernel), true, rfl, ifF rfl ?_⟩
        refine ⟨_, rfl, a, _, rfl, .inr ha, rfl, _, rfl, ifF rfl ?_⟩
        refine ⟨_, _, rfl, hv, _, rfl, true, rfl, ifF rfl ?_⟩
        refine ⟨_, _, rfl, hv, _, rfl, true, rfl, ifF rfl ?_⟩
        refine ⟨_, rfl, _, rfl, _, rfl, ixr hm g2 (by omega) fun u hu => ?_⟩
        refine ⟨_, _, hv.dp, hu.dp, sh_rat _, sh_rat _, _, rfl, ?_⟩
        rw [eqv_rat]
        refine ifB (fun hne => ?_) (fun hne => ?_)
        · have e : ¬ qs = ps := fun z => by
            subst z
            simp at hne
          rw [decide_eq_false e] at k
          exact k
        · have e : qs[i]'(by omega) = ps[i] := by simpa using hne
          refine ⟨rfl, ?_, _, _, rfl⟩
          rw [List.take_succ, List.take_succ, g1, g2, et, e]
      · rintro σ H' ⟨rfl, et, kv, pv', rfl⟩
        have e : qs = ps := by
          rw [List.take_length] at et
          rw [← et, ← el, List.take_length]
        rw [decide_eq_true e] at k
        exact k

theorem sc_law_same : FnScope ["found", "top", "bottom"] ["found", "top", "bottom"] (defScope s_law_same) := ⟨rfl, rfl, rfl, by decide +kernel, rfl, by decide +kernel, by decide +kernel⟩
theorem ok_law_same (D : Df K mg "_law_same" s_law_same) (B : Bt mg) (g_law_low : Gd CX0 P w K mg base 1 "_law_low" ["top", "bottom"] (spLow K)) (g_law_parts : Gd CX0 P w K mg base 2 "_law_parts" ["found", "due"] (spParts K)) : Gd CX0 P w K mg base 3 "_law_same" ["found", "top", "bottom"] (spSame K) := by
  refine gd_of D sc_law_same (fun _ _ _ _ _ _ us hl => match us, hl with | [_, _, _], _ => rfl) (fun vs H Q E h => ?_) (fun f cdv A outer s H vs Q E hr h => ?_)
  · obtain ⟨v, q, t, b, rfl, _⟩ := h
    rfl
  · obtain ⟨v, q, t, b, rfl, hv, hb, hl, k⟩ := h
    refine ⟨_, PSs.nox (pss_cons (ps_if (pt_cmpR op_lt (pv 2) pe_int (nomark _)) (pss_cons (ps_set (i := 1) sc_law_same.nd rfl (Or.inl rfl) (pe_op op_sub pe_int (pv 1))) (pss_one (ps_set (i := 2) sc_law_same.nd rfl (Or.inl rfl) (pe_op op_sub pe_int (pv 2))))) pss_nil)
      (pss_one (ps_ret (pe_gd g_law_parts hr (pa_cons (pe_lst (pa_cons (pv 0) pa_nil)) (pa_cons (pe_lst (pa_cons (pe_gd g_law_low hr (pa_cons (pv 1) (pa_cons (pv 2) pa_nil))) pa_nil)) pa_nil)))))), ?_⟩
    refine ⟨_, rfl, _, _, rfl, rfl, _, rfl, ?_⟩
    have fin : ∀ (t' : Int) (n : Nat) (p r p2 : Addr) (H2 : Hp), Rat.divInt t b = mkRat t' n → H p = none → Same (upd H p (.lst [v])) H2 → RatAt K H2 (.ref r) (mkRat t' n) → H2 p2 = none → spParts K [.ref p, .ref p2] (upd H2 p2 (.lst [.ref r])) Q E0 := by
      intro t' n p r p2 H2 er hp s2 hr2 hp2
      refine ⟨p, p2, [q], [mkRat t' n], rfl, ?_, RL.new hp2 (Rats.one hr2), (by show 1 ≤ 1000; decide), ?_⟩
      · exact ((RL.new hp (Rats.one hv)).same s2).same (same_new hp2)
      · have e : decide ([q] = [mkRat t' n]) = decide (q = Rat.divInt t b) := by
          rw [er]
          by_cases z : q = mkRat t' n
          · rw [z]; simp
          · simp [z]
        rw [e]
        exact k _ ((same_new hp).trans (s2.trans (same_new hp2)))
    refine if2 (fun hneg => ?_) (fun hneg => ?_)
    · refine ⟨_, rfl, _, _, rfl, rfl, _, rfl, _, _, rfl, rfl, ?_⟩
      obtain ⟨n, en⟩ : ∃ n : Nat, 0 - b = (n : Int) := ⟨b.natAbs, by omega⟩
      have hl2 : n < 2 ^ 9000 := by rw [show n = b.natAbs by omega]; exact hl
      refine ⟨_, rfl, (by show 1 ≤ sizeLine; decide), fun p hp => ?_⟩
      refine ⟨_, rfl, _, rfl, 0 - t, n, congrArg (fun z => [V.int (0 - t), V.int z]) en, by omega, hl2, fun r H2 s2 hr2 => ?_⟩
      refine ⟨(by show 1 ≤ sizeLine; decide), fun p2 hp2 => ?_⟩
      exact fin _ n p r p2 H2 (by rw [divInt_neg hneg, en, Rat.divInt_ofNat]) hp s2 hr2 hp2
    · obtain ⟨n, rfl⟩ : ∃ n : Nat, b = (n : Int) := ⟨b.natAbs, by omega⟩
      have hl2 : n < 2 ^ 9000 := by rw [Int.natAbs_natCast] at hl; exact hl
      refine ⟨_, rfl, (by show 1 ≤ sizeLine; decide), fun p hp => ?_⟩
      refine ⟨_, rfl, _, rfl, t, n, rfl, by omega, hl2, fun r H2 s2 hr2 => ?_⟩
      refine ⟨(by show 1 ≤ sizeLine; decide), fun p2 hp2 => ?_⟩
      exact fin _ n p r p2 H2 (by rw [Rat.divInt_ofNat]) hp s2 hr2 hp2

theorem sc_common : FnScope ["one", "other", "rest"] ["one", "other"] (defScope s_common) := ⟨rfl, rfl, rfl, by decide +kernel, rfl, by decide +kernel, by decide +kernel⟩
theorem ok_common (D : Df K mg "common" s_common) (B : Bt mg) : Gd CX0 P w K mg base 1 "common" ["one", "other"] (spCommon) := by
  refine gd_of D sc_common (fun _ _ _ _ _ _ us hl => match us, hl with | [_, _], _ => rfl) (fun vs H Q E h => ?_) (fun f cdv A outer s H vs Q E hr h => ?_)
  · obtain ⟨a, b, rfl, _⟩ := h
    rfl
  · obtain ⟨a, b, rfl, k⟩ := h
    refine ⟨_, PSs.nox (pss_cons (ps_while PassesOwn.never (pt_cmpR op_gt (pv 1) pe_int (nomark _)) (pss_cons (ps_set (i := 2) sc_common.nd rfl (Or.inl rfl) (pe_op op_modN (pv 0) (pv 1))) (pss_cons (ps_set (i := 0) sc_common.nd rfl (Or.inl rfl) (pv 1)) (pss_one (ps_set (i := 1) sc_common.nd rfl (Or.inl rfl) (pv 2))))))
      (pss_one (ps_ret (pv 0)))), ?_⟩
    refine ⟨fun m σ H1 => H1 = H ∧ ∃ (x y : Nat) (r : Option V), σ = [some (.int x), some (.int y), r] ∧ m = y ∧ Nat.gcd x y = Nat.gcd a b, ⟨b, rfl, a, b, none, rfl, rfl, rfl⟩, ?_⟩
    rintro m σ H1 ⟨rfl, x, y, r, rfl, rfl, eg⟩
    refine ⟨_, rfl, _, _, rfl, rfl, _, rfl, ?_⟩
    refine if2 (fun hy => ?_) (fun hy => ?_)
    · have hy : 0 < m := by omega
      refine ⟨fun σ' H' => H' = H1 ∧ ∃ r : Option V, σ' = [some (.int (m : Nat)), some (.int ((x % m : Nat) : Int)), r], ?_, ?_⟩
      · rintro σ' H' ⟨rfl, r', rfl⟩
        refine ⟨x % m, Nat.mod_lt _ hy, rfl, m, x % m, r', rfl, rfl, ?_⟩
        rw [← eg, Nat.gcd_comm x m, Nat.gcd_rec m x, Nat.gcd_comm m]
      · refine ⟨_, rfl, _, rfl, _, _, rfl, rfl, (by omega), ?_⟩
        refine ⟨_, rfl, _, rfl, rfl, some (.int ((x % m : Nat) : Int)), ?_⟩
        have ef : Int.fmod (x : Int) (m : Int) = ((x % m : Nat) : Int) := by rw [Int.fmod_eq_emod_of_nonneg _ (by omega)]; rfl
        exact congrArg (fun z => [some (V.int (m : Nat)), some (V.int z), some (V.int z)]) ef
    · have e : m = 0 := by omega
      subst e
      refine ⟨_, rfl, ?_⟩
      rw [Nat.gcd_zero_right] at eg
      rw [eg]
      exact k

theorem sc_fraction : FnScope ["top", "bottom", "far"] ["top", "bottom"] (defScope s_fraction) := ⟨rfl, rfl, rfl, by decide +kernel, rfl, by decide +kernel, by decide +kernel⟩
theorem ok_fraction (D : Df K mg "fraction" s_fraction) (B : Bt mg) (g_common : Gd CX0 P w K mg base 1 "common" ["one", "other"] (spCommon)) : Gd CX0 P w K mg base 2 "fraction" ["top", "bottom"] (spFraction K) := by
  refine gd_of D sc_fraction (fun _ _ _ _ _ _ us hl => match us, hl with | [_, _], _ => rfl) (fun vs H Q E h => ?_) (fun f cdv A outer s H vs Q E hr h => ?_)
  · obtain ⟨t, b, rfl, _⟩ := h
    rfl
  · obtain ⟨t, b, rfl, hb, hl, k⟩ := h
    refine ⟨_, PSs.nox (pss_cons (ps_if (pt_cmpR op_lt (pv 1) pe_int (nomark _)) (pss_cons (ps_set (i := 0) sc_fraction.nd rfl (Or.inl rfl) (pe_op op_sub pe_int (pv 0))) (pss_one (ps_set (i := 1) sc_fraction.nd rfl (Or.inl rfl) (pe_op op_sub pe_int (pv 1))))) pss_nil)
      (pss_cons (ps_set (i := 2) sc_fraction.nd rfl (Or.inl rfl) (pe_gd g_common hr (pa_cons (pe_callB call_abs (by rfl) B.abs (by decide +kernel) (pa_cons (pv 0) pa_nil)) (pa_cons (pv 1) pa_nil))))
      (pss_one (ps_ret (pe_tup (pa_cons (pe_op op_fdivW (pv 0) (pv 2)) (pa_cons (pe_op op_fdivW (pv 1) (pv 2)) pa_nil))))))), ?_⟩
    refine ⟨_, rfl, _, _, rfl, rfl, _, rfl, ?_⟩
    refine if2 (fun hneg => ?_) (fun hneg => ?_)
    · refine ⟨_, rfl, _, _, rfl, rfl, _, rfl, _, _, rfl, rfl, ?_⟩
      obtain ⟨n, en⟩ : ∃ n : Nat, 0 - b = (n : Int) := ⟨b.natAbs, by omega⟩
      have hn : n ≠ 0 := by omega
      have hl2 : n < 2 ^ 9000 := by rw [show n = b.natAbs by omega]; exact hl
      obtain ⟨c1, c2, e1, e2⟩ := low_facts (0 - t) (0 - b) n en hn hl2
      refine ⟨_, rfl, _, rfl, _, rfl, (0 - t).natAbs, n, (by show [V.int (if 0 - t < 0 then -(0 - t) else 0 - t), V.int (0 - b)] = _; rw [abs_int, en]), ?_⟩
      refine ⟨_, rfl, _, rfl, _, _, rfl, rfl, c1, _, rfl, _, rfl, _, _, rfl, rfl, c2, (by show 2 ≤ sizeLine; decide), fun p hp => ?_⟩
      refine k p _ (same_new hp) ?_
      have er : Rat.divInt t b = mkRat (0 - t) n := by rw [divInt_neg hneg, en, Rat.divInt_ofNat]
      rw [er]
      exact rat_new (congrArg V.int e1) (congrArg V.int e2)
    · obtain ⟨n, rfl⟩ : ∃ n : Nat, b = (n : Int) := ⟨b.natAbs, by omega⟩
      have hn : n ≠ 0 := by omega
      have hl2 : n < 2 ^ 9000 := by rw [Int.natAbs_natCast] at hl; exact hl
      obtain ⟨c1, c2, e1, e2⟩ := low_facts t n n rfl hn hl2
      refine ⟨_, rfl, _, rfl, _, rfl, t.natAbs, n, congrArg (fun z => [V.int z, V.int (n : Nat)]) (abs_int t), ?_⟩
      refine ⟨_, rfl, _, rfl, _, _, rfl, rfl, c1, _, rfl, _, rfl, _, _, rfl, rfl, c2, (by show 2 ≤ sizeLine; decide), fun p hp => ?_⟩
      refine k p _ (same_new hp) ?_
      rw [Rat.divInt_ofNat]
      exact rat_new (congrArg V.int e1) (congrArg V.int e2)

theorem sc_plus : FnScope ["one", "other"] ["one", "other"] (defScope s_plus) := ⟨rfl, rfl, rfl, by decide +kernel, rfl, by decide +kernel, by decide +kernel⟩
theorem ok_plus (D : Df K mg "plus" s_plus) (B : Bt mg) (g_fraction : Gd CX0 P w K mg base 2 "fraction" ["top", "bottom"] (spFraction K)) : Gd CX0 P w K mg base 3 "plus" ["one", "other"] (spOp2 K (· + ·)) := by
  refine gd_of D sc_plus (fun _ _ _ _ _ _ us hl => match us, hl with | [_, _], _ => rfl) (fun vs H Q E h => ?_) (fun f cdv A outer s H vs Q E hr h => ?_)
  · obtain ⟨u, v, p, q, rfl, _⟩ := h
    rfl
  · obtain ⟨u, v, p, q, rfl, hu, hv, ⟨p1, p2⟩, ⟨q1, q2⟩, k⟩ := h
    refine ⟨_, PSs.nox (pss_one (ps_ret (pe_gd g_fraction hr (pa_cons (pe_op op_add (pe_op op_mulW (pe_num 0) (pe_den 1)) (pe_op op_mulW (pe_num 1) (pe_den 0))) (pa_cons (pe_op op_mulW (pe_den 0) (pe_den 1)) pa_nil))))), ?_⟩
    refine ⟨_, p, rfl, hu, _, q, rfl, hv, _, _, rfl, rfl, cm p1 (by rw [natAbs_den]; exact q2), ?_⟩
    refine ⟨_, q, rfl, hv, _, p, rfl, hu, _, _, rfl, rfl, cm q1 (by rw [natAbs_den]; exact p2), _, _, rfl, rfl, ?_⟩
    refine ⟨_, p, rfl, hu, _, q, rfl, hv, _, _, rfl, rfl, cm (by rw [natAbs_den]; exact p2) (by rw [natAbs_den]; exact q2), ?_⟩
    obtain ⟨b1, b2, b3⟩ := den_mul_facts p2 q2
    refine ⟨_, _, rfl, b1, b2, fun r H' s hr => k r H' s ?_⟩
    rw [b3, sum_mk] at hr
    exact hr

theorem sc_minus : FnScope ["one", "other"] ["one", "other"] (defScope s_minus) := ⟨rfl, rfl, rfl, by decide +kernel, rfl, by decide +kernel, by decide +kernel⟩
theorem ok_minus (D : Df K mg "minus" s_minus) (B : Bt mg) (g_fraction : Gd CX0 P w K mg base 2 "fraction" ["top", "bottom"] (spFraction K)) : Gd CX0 P w K mg base 3 "minus" ["one", "other"] (spOp2 K (· - ·)) := by
  refine gd_of D sc_minus (fun _ _ _ _ _ _ us hl => match us, hl with | [_, _], _ => rfl) (fun vs H Q E h => ?_) (fun f cdv A outer s H vs Q E hr h => ?_)
  · obtain ⟨u, v, p, q, rfl, _⟩ := h
    rfl
  · obtain ⟨u, v, p, q, rfl, hu, hv, ⟨p1, p2⟩, ⟨q1, q2⟩, k⟩ := h
    refine ⟨_, PSs.nox (pss_one (ps_ret (pe_gd g_fraction hr (pa_cons (pe_op op_sub (pe_op op_mulW (pe_num 0) (pe_den 1)) (pe_op op_mulW (pe_num 1) (pe_den 0))) (pa_cons (pe_op op_mulW (pe_den 0) (pe_den 1)) pa_nil))))), ?_⟩
    refine ⟨_, p, rfl, hu, _, q, rfl, hv, _, _, rfl, rfl, cm p1 (by rw [natAbs_den]; exact q2), ?_⟩
    refine ⟨_, q, rfl, hv, _, p, rfl, hu, _, _, rfl, rfl, cm q1 (by rw [natAbs_den]; exact p2), _, _, rfl, rfl, ?_⟩
    refine ⟨_, p, rfl, hu, _, q, rfl, hv, _, _, rfl, rfl, cm (by rw [natAbs_den]; exact p2) (by rw [natAbs_den]; exact q2), ?_⟩
    obtain ⟨b1, b2, b3⟩ := den_mul_facts p2 q2
    refine ⟨_, _, rfl, b1, b2, fun r H' s hr => k r H' s ?_⟩
    rw [b3, dif_mk] at hr
    exact hr

theorem sc_times : FnScope ["one", "other"] ["one", "other"] (defScope s_times) := ⟨rfl, rfl, rfl, by decide +kernel, rfl, by decide +kernel, by decide +kernel⟩
theorem ok_times (D : Df K mg "times" s_times) (B : Bt mg) (g_fraction : Gd CX0 P w K mg base 2 "fraction" ["top", "bottom"] (spFraction K)) : Gd CX0 P w K mg base 3 "times" ["one", "other"] (spOp2 K (· * ·)) := by
  refine gd_of D sc_times (fun _ _ _ _ _ _ us hl => match us, hl with | [_, _], _ => rfl) (fun vs H Q E h => ?_) (fun f cdv A outer s H vs Q E hr h => ?_)
  · obtain ⟨u, v, p, q, rfl, _⟩ := h
    rfl
  · obtain ⟨u, v, p, q, rfl, hu, hv, ⟨p1, p2⟩, ⟨q1, q2⟩, k⟩ := h
    refine ⟨_, PSs.nox (pss_one (ps_ret (pe_gd g_fraction hr (pa_cons (pe_op op_mulW (pe_num 0) (pe_num 1)) (pa_cons (pe_op op_mulW (pe_den 0) (pe_den 1)) pa_nil))))), ?_⟩
    refine ⟨_, p, rfl, hu, _, q, rfl, hv, _, _, rfl, rfl, cm p1 q1, ?_⟩
    refine ⟨_, p, rfl, hu, _, q, rfl, hv, _, _, rfl, rfl, cm (by rw [natAbs_den]; exact p2) (by rw [natAbs_den]; exact q2), ?_⟩
    obtain ⟨b1, b2, b3⟩ := den_mul_facts p2 q2
    refine ⟨_, _, rfl, b1, b2, fun r H' s hr => k r H' s ?_⟩
    rw [b3, mul_mk] at hr
    exact hr

theorem sc_over : FnScope ["one", "other"] ["one", "other"] (defScope s_over) := ⟨rfl, rfl, rfl, by decide +kernel, rfl, by decide +kernel, by decide +kernel⟩
theorem ok_over (D : Df K mg "over" s_over) (B : Bt mg) (g_fraction : Gd CX0 P w K mg base 2 "fraction" ["top", "bottom"] (spFraction K)) : Gd CX0 P w K mg base 3 "over" ["one", "other"] (spOver K) := by
  refine gd_of D sc_over (fun _ _ _ _ _ _ us hl => match us, hl with | [_, _], _ => rfl) (fun vs H Q E h => ?_) (fun f cdv A outer s H vs Q E hr h => ?_)
  · obtain ⟨u, v, p, q, rfl, _⟩ := h
    rfl
  · obtain ⟨u, v, p, q, rfl, hu, hv, ⟨p1, p2⟩, ⟨q1, q2⟩, hq, k⟩ := h
    refine ⟨_, PSs.nox (pss_one (ps_ret (pe_gd g_fraction hr (pa_cons (pe_op op_mulW (pe_num 0) (pe_den 1)) (pa_cons (pe_op op_mulW (pe_den 0) (pe_num 1)) pa_nil))))), ?_⟩
    refine ⟨_, p, rfl, hu, _, q, rfl, hv, _, _, rfl, rfl, cm p1 (by rw [natAbs_den]; exact q2), ?_⟩
    refine ⟨_, p, rfl, hu, _, q, rfl, hv, _, _, rfl, rfl, cm (by rw [natAbs_den]; exact p2) q1, ?_⟩
    obtain ⟨b1, b2⟩ := den_num_facts p2 q1 hq
    refine ⟨_, _, rfl, b1, b2, fun r H' s hr => k r H' s ?_⟩
    rw [over_mk] at hr
    exact hr

theorem sc_law : FnScope ["script", "one", "other", "great", "bottom", "a", "b", "c", "d"] ["script"] (defScope s_law) := ⟨rfl, rfl, rfl, by decide +kernel, rfl, by decide +kernel, by decide +kernel⟩
theorem ok_law (B : Bt mg) (g_law_cell_at : Gd CX0 P w K mg base 1 "_law_cell_at" ["script", "k"] (spCellAt K)) (g_law_fraction : Gd CX0 P w K mg base 2 "_law_fraction" ["cell"] (spFrac1 K)) (g_law_low : Gd CX0 P w K mg base 1 "_law_low" ["top", "bottom"] (spLow K)) (g_law_same : Gd CX0 P w K mg base 3 "_law_same" ["found", "top", "bottom"] (spSame K)) (g_plus : Gd CX0 P w K mg base 3 "plus" ["one", "other"] (spOp2 K (· + ·))) (g_minus : Gd CX0 P w K mg base 3 "minus" ["one", "other"] (spOp2 K (· - ·))) (g_times : Gd CX0 P w K mg base 3 "times" ["one", "other"] (spOp2 K (· * ·))) (g_over : Gd CX0 P w K mg base 3 "over" ["one", "other"] (spOver K)) : Gf CX0 P w K mg base 4 "law" s_law ["script"] (spLaw K) := by
  refine gf_of sc_law (fun vs H Q E h => ?_) (fun f cdv A outer s H vs Q E hr h => ?_)
  · obtain ⟨a, ns, rfl, _⟩ := h
    rfl
  · obtain ⟨a, ns, rfl, hS, hn, k⟩ := h
    refine ⟨_, PSs.nox (pss_cons (ps_set (i := 1) sc_law.nd rfl (Or.inl rfl) (pe_gd g_law_fraction hr (pa_cons (pe_gd g_law_cell_at hr (pa_cons (pv 0) (pa_cons pe_int pa_nil))) pa_nil)))
      (pss_cons (ps_set (i := 2) sc_law.nd rfl (Or.inl rfl) (pe_gd g_law_fraction hr (pa_cons (pe_gd g_law_cell_at hr (pa_cons (pv 0) (pa_cons pe_int pa_nil))) pa_nil)))
      (C8.pss_cut (ps_if (pt_cmpR op_eq (pe_op op_mod (pe_gd g_law_cell_at hr (pa_cons (pv 0) (pa_cons pe_int pa_nil))) pe_int) pe_int (nomark _)) (pss_cons (ps_set (i := 3) sc_law.nd rfl (Or.inl rfl) (pe_callTy call_int_str (by rfl) B.int (by decide +kernel) (pa_cons (pe_op op_add_str pe_str (pe_op op_mul_str pe_str pe_int)) pa_nil))) (pss_cons (ps_set (i := 4) sc_law.nd rfl (Or.inl rfl) (pe_op op_add pe_int (pe_op op_mod (pe_op op_mul (pe_gd g_law_cell_at hr (pa_cons (pv 0) (pa_cons pe_int pa_nil))) pe_int) (pv 3)))) (pss_cons (ps_set (i := 1) sc_law.nd rfl (Or.inl rfl) (pe_gd g_law_low hr (pa_cons (pe_op op_sub (pe_op op_mod (pe_op op_mul (pe_gd g_law_cell_at hr (pa_cons (pv 0) (pa_cons pe_int pa_nil))) pe_int) (pv 3)) (pe_op op_fdiv (pv 3) pe_int)) (pa_cons (pv 4) pa_nil)))) (pss_one (ps_set (i := 2) sc_law.nd rfl (Or.inl rfl) (pe_gd g_law_low hr (pa_cons (pe_op op_sub (pe_op op_mod (pe_gd g_law_cell_at hr (pa_cons (pv 0) (pa_cons pe_int pa_nil))) (pv 3)) (pe_op op_fdiv (pv 3) pe_int)) (pa_cons (pe_op op_add pe_int (pe_op op_mod (pe_gd g_law_cell_at hr (pa_cons (pv 0) (pa_cons pe_int pa_nil))) (pv 3))) pa_nil)))))))) pss_nil)
      (pss_cons (ps_set (i := 5) sc_law.nd rfl (Or.inl rfl) (pe_num 1))
      (pss_cons (ps_set (i := 6) sc_law.nd rfl (Or.inl rfl) (pe_den 1))
      (pss_cons (ps_set (i := 7) sc_law.nd rfl (Or.inl rfl) (pe_num 2))
      (pss_cons (ps_set (i := 8) sc_law.nd rfl (Or.inl rfl) (pe_den 2))
      (pss_cons (ps_if (PW.pt (pw_or (pt_not (pt_val (pe_gd g_law_same hr (pa_cons (pe_gd g_plus hr (pa_cons (pv 1) (pa_cons (pv 2) pa_nil))) (pa_cons (pe_op op_add (pe_op op_mulW (pv 5) (pv 8)) (pe_op op_mulW (pv 7) (pv 6))) (pa_cons (pe_op op_mulW (pv 6) (pv 8)) pa_nil)))))) (pw_or1 (pt_not (pt_val (pe_gd g_law_same hr (pa_cons (pe_gd g_minus hr (pa_cons (pv 1) (pa_cons (pv 2) pa_nil))) (pa_cons (pe_op op_sub (pe_op op_mulW (pv 5) (pv 8)) (pe_op op_mulW (pv 7) (pv 6))) (pa_cons (pe_op op_mulW (pv 6) (pv 8)) pa_nil))))))))) (pss_one (ps_ret pe_bl)) pss_nil)
      (pss_cons (ps_if (pt_not (pt_val (pe_gd g_law_same hr (pa_cons (pe_gd g_times hr (pa_cons (pv 1) (pa_cons (pv 2) pa_nil))) (pa_cons (pe_op op_mulW (pv 5) (pv 7)) (pa_cons (pe_op op_mulW (pv 6) (pv 8)) pa_nil)))))) (pss_one (ps_ret pe_bl)) pss_nil)
      (pss_one (ps_ret (pe_or (pe_cmpR op_eq (pv 7) pe_int (nomark _)) (pe_one (pe_gd g_law_same hr (pa_cons (pe_gd g_over hr (pa_cons (pv 1) (pa_cons (pv 2) pa_nil))) (pa_cons (pe_op op_mulW (pv 5) (pv 8)) (pa_cons (pe_op op_mulW (pv 6) (pv 7)) pa_nil))))))))))))))))), ?_⟩
    refine ⟨_, rfl, a, ns, 0, rfl, hS.1, cellAt ns 0, rfl, fun r1 H1 q1 s1 m1 a1 => ?_⟩
    refine ⟨_, rfl, a, ns, 1, rfl, hS.kt (kt_of s1), cellAt ns 1, rfl, fun r2 H2 q2 s2 m2 a2 => ?_⟩
    have s02 := s1.trans s2
    refine ⟨fun σ' H' => ∃ (v1 v2 : V) (p q : Rat) (g b : Option V), σ' = [some (.ref a), some v1, some v2, g, b, none, none, none, none] ∧ Same H H' ∧ RatAt K H' v1 p ∧ RatAt K H' v2 q ∧ Sm p ∧ Sm q, ?_, ?_⟩
    · refine ⟨_, rfl, a, ns, 2, rfl, hS.kt (kt_of s02), _, _, rfl, rfl, (by show (0 : Int) < 5; decide), rfl, _, rfl, ?_⟩
      refine ifB (fun _ => ?_) (fun _ => ?_)
      · refine ⟨_, _, rfl, rfl, ⟨by decide +kernel, by decide +kernel, by decide +kernel⟩, _, _, rfl, rfl, (by decide +kernel), _, 10 ^ 50, rfl, (by decide +kernel), (by decide +kernel), ?_⟩
        generalize hg : (10 : Int) ^ 50 = g
        have g0 : 0 < g := by rw [← hg]; decide
        have g1 : g < 2 ^ 200 := by rw [← hg]; decide
        have up : ∀ n : Nat, (n : Int) < 2 ^ 201 → n < 2 ^ 4500 := fun n h => Nat.lt_of_lt_of_le (m := 2 ^ 201) (by omega) (Nat.pow_le_pow_right (by decide) (by decide))
        refine ⟨_, rfl, a, ns, 1, rfl, hS.kt (kt_of s02), _, _, rfl, rfl, .inr (by decide), _, rfl, _, _, rfl, rfl, g0, _, _, rfl, rfl, ?_⟩
        have b0 : 0 ≤ cellAt ns 1 * 104729 % g := Int.emod_nonneg _ (by omega)
        have b1 : cellAt ns 1 * 104729 % g < g := Int.emod_lt_of_pos _ g0
        have c0 : 0 ≤ cellAt ns 0 * 7919 % g := Int.emod_nonneg _ (by omega)
        have c1 : cellAt ns 0 * 7919 % g < g := Int.emod_lt_of_pos _ g0
        have d0 : 0 ≤ cellAt ns 3 % g := Int.emod_nonneg _ (by omega)
        have d1 : cellAt ns 3 % g < g := Int.emod_lt_of_pos _ g0
        have e0 : 0 ≤ cellAt ns 4 % g := Int.emod_nonneg _ (by omega)
        have e1 : cellAt ns 4 % g < g := Int.emod_lt_of_pos _ g0
        obtain ⟨n, en⟩ := Int.eq_ofNat_of_zero_le (show 0 ≤ 1 + cellAt ns 1 * 104729 % g by omega)
        obtain ⟨m, em⟩ := Int.eq_ofNat_of_zero_le (show 0 ≤ 1 + cellAt ns 4 % g by omega)
        have n0 : n ≠ 0 := by omega
        have m0 : m ≠ 0 := by omega
        have n1 : n < 2 ^ 4500 := up n (by omega)
        have m1 : m < 2 ^ 4500 := up m (by omega)
        refine ⟨_, rfl, a, ns, 0, rfl, hS.kt (kt_of s02), _, _, rfl, rfl, .inr (by decide), _, rfl, _, _, rfl, rfl, g0, _, rfl, _, _, rfl, rfl, ⟨by decide, by decide⟩, _, _, rfl, rfl, _, rfl, ?_⟩
        refine ⟨_, n, congrArg (fun z => [V.int _, V.int z]) en, n0, Nat.lt_of_lt_of_le n1 (Nat.pow_le_pow_right (by decide) (by decide)), fun r3 H3 s3 a3 => ?_⟩
        refine ⟨_, rfl, a, ns, 3, rfl, hS.kt (kt_of (s02.trans s3)), _, rfl, _, _, rfl, rfl, g0, _, rfl, _, _, rfl, rfl, ⟨by decide, by decide⟩, _, _, rfl, rfl, _, rfl, a, ns, 4, rfl, hS.kt (kt_of (s02.trans s3)), _, rfl, _, _, rfl, rfl, g0, _, _, rfl, rfl, ?_⟩
        refine ⟨_, m, congrArg (fun z => [V.int _, V.int z]) em, m0, Nat.lt_of_lt_of_le m1 (Nat.pow_le_pow_right (by decide) (by decide)), fun r4 H4 s4 a4 => ?_⟩
        refine ⟨_, _, _, _, _, _, rfl, (s02.trans s3).trans s4, a3.same s4, a4, sm_mk n0 (up _ ?_) n1, sm_mk m0 (up _ ?_) m1⟩
        · omega
        · omega
      · exact ⟨_, _, _, _, _, _, rfl, s02, a1.same s2, a2, m1, m2⟩
    · rintro σ' H' ⟨v1, v2, p, q, g, b, rfl, s3, h1, h2, sp1, sq1⟩
      have hp := sp1
      have hq := sq1
      obtain ⟨p1, p2⟩ := sp1
      obtain ⟨q1, q2⟩ := sq1
      obtain ⟨b1, b2, b3⟩ := den_mul_facts p2 q2
      have cpq : CMulW p.num (q.den : Int) := cm p1 (by rw [natAbs_den]; exact q2)
      have cqp : CMulW q.num (p.den : Int) := cm q1 (by rw [natAbs_den]; exact p2)
      have cdd : CMulW (p.den : Int) (q.den : Int) := cm (by rw [natAbs_den]; exact p2) (by rw [natAbs_den]; exact q2)
      refine ⟨_, _, rfl, h1, _, _, rfl, h1, _, _, rfl, h2, _, _, rfl, h2, ?_⟩
      -- plus
      refine ⟨_, rfl, _, rfl, _, _, p, q, rfl, h1, h2, hp, hq, fun r4 H4 s4 a4 => ?_⟩
      refine ⟨_, rfl, _, rfl, _, _, rfl, rfl, cpq, _, rfl, _, rfl, _, _, rfl, rfl, cqp, _, _, rfl, rfl, _, rfl, _, rfl, _, _, rfl, rfl, cdd, ?_⟩
      refine ⟨_, _, _, _, rfl, a4, b1, b2, fun H5 s5 => ⟨true, congrArg V.bl (decide_eq_true (by rw [b3, sum_mk])), ifF rfl ?_⟩⟩
      -- minus
      have s35 := s4.trans s5
      refine ⟨_, rfl, _, rfl, _, _, p, q, rfl, h1.same s35, h2.same s35, hp, hq, fun r6 H6 s6 a6 => ?_⟩
      refine ⟨_, rfl, _, rfl, _, _, rfl, rfl, cpq, _, rfl, _, rfl, _, _, rfl, rfl, cqp, _, _, rfl, rfl, _, rfl, _, rfl, _, _, rfl, rfl, cdd, ?_⟩
      refine ⟨_, _, _, _, rfl, a6, b1, b2, fun H7 s7 => ⟨true, congrArg V.bl (decide_eq_true (by rw [b3, dif_mk])), ifF rfl ?_⟩⟩
      -- times
      have s37 := s35.trans (s6.trans s7)
      refine ⟨_, rfl, _, rfl, _, _, p, q, rfl, h1.same s37, h2.same s37, hp, hq, fun r8 H8 s8 a8 => ?_⟩
      refine ⟨_, rfl, _, rfl, _, _, rfl, rfl, cm p1 q1, _, rfl, _, rfl, _, _, rfl, rfl, cdd, ?_⟩
      refine ⟨_, _, _, _, rfl, a8, b1, b2, fun H9 s9 => ⟨true, congrArg V.bl (decide_eq_true (by rw [b3, mul_mk])), ifF rfl ?_⟩⟩
      -- over
      have s39 := s37.trans (s8.trans s9)
      refine ⟨_, rfl, rfl, _, rfl, ?_⟩
      refine ifB (fun _ => k _) (fun hne => ?_)
      have hz : q.num ≠ 0 := fun z => by
        rw [z] at hne
        simp at hne
      have hq0 : q ≠ 0 := fun z => hz (by rw [z]; rfl)
      obtain ⟨c1, c2⟩ := den_num_facts p2 q1 hq0
      refine ⟨_, rfl, _, rfl, _, _, p, q, rfl, h1.same s39, h2.same s39, hp, hq, hq0, fun rA HA sA aA => ?_⟩
      refine ⟨_, rfl, _, rfl, _, _, rfl, rfl, cpq, _, rfl, _, rfl, _, _, rfl, rfl, cm (by rw [natAbs_den]; exact p2) q1, ?_⟩
      refine ⟨_, _, _, _, rfl, aA, c1, c2, fun HB sB => ?_⟩
      rw [decide_eq_true (by rw [over_mk])]
      exact k _

end
def fnL : List He.DefD := [dfD "_law_cell_at" s_law_cell_at, dfD "_law_low" s_law_low, dfD "_law_fraction" s_law_fraction, dfD "_law_whole" s_law_whole, dfD "_law_parts" s_law_parts, dfD "_law_same" s_law_same, dfD "common" s_common, dfD "fraction" s_fraction, dfD "plus" s_plus, dfD "minus" s_minus, dfD "times" s_times, dfD "over" s_over, dfD "law" s_law]
def faL : List He.Fa := btFa ++ [.glo "_law_cell_at", .glo "_law_low", .glo "_law_fraction", .glo "_law_whole", .glo "_law_parts", .glo "_law_same", .glo "common", .glo "fraction", .glo "plus", .glo "minus", .glo "times", .glo "over", .glo "law"]
def xbL (K : PySem.W.Frag) : Bool := true
abbrev rowL : PySem.W.OpenRow := PySem.W.OpenLaw.row PySem.Challenge.rw_echofield_k01_fractions
abbrev hkL : PySem.W.Hook := hookX 5 faL fnL xbL
def obL (s : PySem.W.SharedT) : AlX := obsXG 5 faL fnL xbL (HandSHeadRun.getT s)
theorem obL_eq (s : PySem.W.SharedT) : obL s = hkL.obs s.abs := obsXG_eq (HandSHeadRun.getT_eq s)
def looseL : List Str := ["common", "fraction", "plus", "minus", "times", "over", "_law_cell_at", "_law_whole", "_law_low", "_law_plus", "_law_times", "_law_less", "_law_parts", "_law_fraction", "_law_same"]
theorem runL (w : World) : HandSHeadRun.RunEq rowL (PySem.W.view rowL.prog [17]) hkL obL 3000 looseL w := by
  intro os
  kernel_rfl
theorem lawL {P : Program} {w : World} {K : PySem.W.Frag} {h : Heap} {mg : Str → Option Value} (X : K.In h) (G : h.Ns mainGlobals mg) (c : SaysX faL fnL xbL K) (base : Heap) : Gf CX0 P w K mg base 4 "law" s_law ["script"] (spLaw K) := by
  have B : Bt mg := bt_of c X G
  have g_law_cell_at := ok_law_cell_at (P := P) (w := w) (base := base) (df_of c X G 0 10 (x := "_law_cell_at") (st := s_law_cell_at)) B
  have g_law_low := ok_law_low (P := P) (w := w) (base := base) (df_of c X G 1 11 (x := "_law_low") (st := s_law_low)) B
  have g_law_fraction := ok_law_fraction (P := P) (w := w) (base := base) (df_of c X G 2 12 (x := "_law_fraction") (st := s_law_fraction)) B g_law_low
  have g_law_whole := ok_law_whole (P := P) (w := w) (base := base) (df_of c X G 3 13 (x := "_law_whole") (st := s_law_whole)) B
  have g_law_parts := ok_law_parts (P := P) (w := w) (base := base) (df_of c X G 4 14 (x := "_law_parts") (st := s_law_parts)) B g_law_whole
  have g_law_same := ok_law_same (P := P) (w := w) (base := base) (df_of c X G 5 15 (x := "_law_same") (st := s_law_same)) B g_law_low g_law_parts
  have g_common := ok_common (P := P) (w := w) (base := base) (df_of c X G 6 16 (x := "common") (st := s_common)) B
  have g_fraction := ok_fraction (P := P) (w := w) (base := base) (df_of c X G 7 17 (x := "fraction") (st := s_fraction)) B g_common
  have g_plus := ok_plus (P := P) (w := w) (base := base) (df_of c X G 8 18 (x := "plus") (st := s_plus)) B g_fraction
  have g_minus := ok_minus (P := P) (w := w) (base := base) (df_of c X G 9 19 (x := "minus") (st := s_minus)) B g_fraction
  have g_times := ok_times (P := P) (w := w) (base := base) (df_of c X G 10 20 (x := "times") (st := s_times)) B g_fraction
  have g_over := ok_over (P := P) (w := w) (base := base) (df_of c X G 11 21 (x := "over") (st := s_over)) B g_fraction
  exact ok_law B g_law_cell_at g_law_fraction g_law_low g_law_same g_plus g_minus g_times g_over
theorem factsL {P : Program} {w : World} {K : PySem.W.Frag} {h : Heap} {mg : Str → Option Value} {f : Addr} (X : K.In h) (G : h.Ns mainGlobals mg) (hfa : mg ("law" : Str) = some (.ref f)) (c : SaysX faL fnL xbL K) :
    ∃ fd : FuncData, (∀ (s : Shared) (v : Value), BindsTo s fd ⟨[v], []⟩ [("script", v)]) ∧ ∀ base : Heap, K.In base → base.Ns mainGlobals mg → FnOk P w K mg base CX0 4 f fd ["script"] (spLaw K) := by
  obtain ⟨fd, F⟩ := c.d.def_ 12 (d := dfD "law" s_law) rfl
  have b := FunD.bindsA (ps := ["script"]) F fun _ _ _ _ _ _ us hl => match us, hl with | [_], _ => rfl
  have e := hfa.symm.trans (He.glo_ok X G (c.d.fact 22 (f := .glo "law") rfl))
  cases e
  exact ⟨fd, fun s v => b s [v] rfl, fun base _ _ => lawL X G c base _ fd F⟩
end Ef
open PySem PySem.W PySem.Calls PyProof.Rows
set_option maxHeartbeats 0
theorem PySem.Challenge.cw_echofield_k01_fractions_holds : PySem.Challenge.rw_echofield_k01_fractions.Holds := by
  w_on; o_law
  refine HandSHeadRun.head_any (r := OpenLaw.row PySem.Challenge.rw_echofield_k01_fractions) (q := view (OpenLaw.row PySem.Challenge.rw_echofield_k01_fractions).prog [17]) (H := Ef.hkL) (ob := Ef.obL) (M := 3000) (loose := Ef.looseL) (d := HandSHeadRun.topDef (OpenLaw.row PySem.Challenge.rw_echofield_k01_fractions).prog 17) (kwd := []) Ef.obL_eq
    (by kernel_rfl) (fun s => by kernel_rfl) Ef.runL (by kernel_rfl) (by kernel_rfl) (by kernel_rfl) (by rfl) (by first | assumption | decide +kernel) (by decide +kernel) ⟨rfl, rfl, rfl, rfl, rfl, by decide +kernel⟩ ?hw ?hc
  case hw => w_witness2
  case hc =>
    refine L2.walk_ofE (l := PySem.Challenge.rw_echofield_k01_fractions) (n := 63) (k := 4) (x := "script") (CX := L2.CX0) rfl (by decide) (by kernel_rfl) ⟨rfl, by decide, by decide⟩ ?F (fun _ _ _ _ z => z)
    intro w mg fa h Y G hmg0
    obtain ⟨K, KX, c⟩ := Y
    have hmg : mg ("law" : PySem.Str) = some (.ref fa) := by
      have e : (HandSHeadRun.topDef (OpenLaw.row PySem.Challenge.rw_echofield_k01_fractions).prog 17).name = ("law" : PySem.Str) := by kernel_rfl
      rw [← e]
      exact hmg0
    obtain ⟨fd, hb, hF⟩ := Ef.factsL (P := (PySem.Challenge.rw_echofield_k01_fractions).prog) (w := w) KX G hmg c
    exact ⟨K, fd, Ef.spLaw K, KX, hb, fun H a ns hl hO hS => ⟨a, ns, rfl, Ef.scr_of hO hS, hl, fun _ => rfl⟩, hF⟩
#print axioms PySem.Challenge.cw_echofield_k01_fractions_holds
