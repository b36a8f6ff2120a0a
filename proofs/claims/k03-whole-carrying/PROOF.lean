import PyProof.Rows.All
import Wide.All
import OpenK.AllK
import Wide.FinOn
import HandS.Base
import HandS.Call
import HandS.List
import HandS.Dict
import HandS.Comp
import HandS.Iter
import HandS.Conv
import HandS.Words
import HandS.TupAny
import HandS.WideBits
import HandS.Wide
import HandS.TupLen
import HandS.Style
import HandS.Zip
import HandS.Exc
import KE.GoesEnum
import KE.GoesMore
import KE.KDictDisplayH
import HandS.SetFor
import HandS.Strs
import HandS.DictTup
import HandS.Deep
import HandS.IsInst
import HandS.Defaults
import HandS.HeadHook2
import HandS.ExcInit
import HandS.WordsExc
import HandS.TryMany
import PySem.Challenge.RW_sevenruns_k03_whole_carrying
import HandS.ExcField
import KE.KStateDown
import Lean
import HandS.Ends
import HandS.More
import HandS.Head0
import HandS.Head1
import HandS.Head2
import HandS.HeadEnd
import HandS.HeadHook1
set_option Elab.async false
set_option linter.all false
set_option autoImplicit false
set_option maxRecDepth 100000
set_option maxHeartbeats 0
-- part ZMathA
/-! Quotients, Euclid, lines of a program, what lines carry: plain Lean. -/
namespace Zm
/-! ### quotients -/
abbrev Qt := Int × Int
def QOk (q : Qt) : Prop := 0 < q.2 ∧ Int.gcd q.1 q.2 = 1
def low (t b : Int) : Qt := (t / (Int.gcd t b : Int), b / (Int.gcd t b : Int))
theorem gcd_pos {t b : Int} (h : 0 < b) : 0 < Int.gcd t b := Int.gcd_pos_of_ne_zero_right t (by omega)
theorem low_ok {t b : Int} (h : 0 < b) : QOk (low t b) := by
  have hg := gcd_pos (t := t) h
  refine ⟨?_, ?_⟩
  · show 0 < b / (Int.gcd t b : Int)
    have hd : (Int.gcd t b : Int) ∣ b := Int.gcd_dvd_right ..
    exact Int.ediv_pos_of_pos_of_dvd h (by omega) hd
  · show Int.gcd (t / (Int.gcd t b : Int)) (b / (Int.gcd t b : Int)) = 1
    rw [Int.gcd_ediv (Int.gcd_dvd_left ..) (Int.gcd_dvd_right ..)]
    rw [Int.natAbs_natCast]
    exact Nat.div_self hg
theorem low_id {q : Qt} (h : QOk q) : low q.1 q.2 = q := by
  obtain ⟨t, b⟩ := q
  have e : Int.gcd t b = 1 := h.2
  simp [low, e]
theorem low_zero {b : Int} (h : 0 < b) : low 0 b = (0, 1) := by
  have e : (Int.gcd 0 b : Int) = b := by rw [Int.gcd_zero_left]; omega
  simp only [low, e, Int.zero_ediv]
  rw [Int.ediv_self (by omega)]
theorem low_one (t : Int) : low t 1 = (t, 1) := by simp [low]
theorem qok_zero : QOk (0, 1) := ⟨by decide, by decide⟩
theorem q_zero {q : Qt} (h : QOk q) (h0 : q.1 = 0) : q = (0, 1) := by
  obtain ⟨t, b⟩ := q
  have e0 : t = 0 := h0
  subst e0
  have h1 : Int.gcd 0 b = 1 := h.2
  have h2 : 0 < b := h.1
  rw [Int.gcd_zero_left] at h1
  have : b = 1 := by omega
  rw [this]
inductive Wd where
  | add | sub | mul
  deriving DecidableEq
def pre (w : Wd) (x y : Qt) : Int × Int := match w with
  | .add => (x.1 * y.2 + y.1 * x.2, x.2 * y.2)
  | .sub => (x.1 * y.2 - y.1 * x.2, x.2 * y.2)
  | .mul => (x.1 * y.1, x.2 * y.2)
def qop (w : Wd) (x y : Qt) : Qt := low (pre w x y).1 (pre w x y).2
theorem pre_pos {w : Wd} {x y : Qt} (hx : 0 < x.2) (hy : 0 < y.2) : 0 < (pre w x y).2 := by
  cases w <;> exact Int.mul_pos hx hy
theorem qop_ok {w : Wd} {x y : Qt} (hx : QOk x) (hy : QOk y) : QOk (qop w x y) := low_ok (pre_pos hx.1 hy.1)
/-- bounds -/
def QLt (q : Qt) (n m : Nat) : Prop := q.1.natAbs ≤ 2 ^ n ∧ q.2.natAbs ≤ 2 ^ m
theorem natAbs_ediv_le (a : Int) (b : Nat) : (a / (b : Int)).natAbs ≤ a.natAbs := by
  exact Int.natAbs_ediv_le_natAbs a b
theorem low_le {t b : Int} {n m : Nat} (ht : t.natAbs ≤ 2 ^ n) (hb : b.natAbs ≤ 2 ^ m) : QLt (low t b) n m :=
  ⟨Nat.le_trans (natAbs_ediv_le _ _) ht, Nat.le_trans (natAbs_ediv_le _ _) hb⟩
theorem mul_le {a b : Int} {n m : Nat} (ha : a.natAbs ≤ 2 ^ n) (hb : b.natAbs ≤ 2 ^ m) : (a * b).natAbs ≤ 2 ^ (n + m) := by
  rw [Int.natAbs_mul, Nat.pow_add]
  exact Nat.mul_le_mul ha hb
theorem pow_le {n m : Nat} (h : n ≤ m) : 2 ^ n ≤ 2 ^ m := Nat.pow_le_pow_right (by decide) h
theorem pre_le {w : Wd} {x y : Qt} {n1 m1 n2 m2 N M : Nat} (hx : QLt x n1 m1) (hy : QLt y n2 m2)
    (hN : match w with | .mul => n1 + n2 ≤ N | _ => n1 + m2 + 1 ≤ N ∧ n2 + m1 + 1 ≤ N) (hM : m1 + m2 ≤ M) : (pre w x y).1.natAbs ≤ 2 ^ N ∧ (pre w x y).2.natAbs ≤ 2 ^ M := by
  have e1 := mul_le hx.1 hy.2
  have e2 := mul_le hy.1 hx.2
  have e3 := mul_le hx.1 hy.1
  have e4 := mul_le hx.2 hy.2
  have e5 : (x.2 * y.2).natAbs ≤ 2 ^ M := Nat.le_trans e4 (pow_le hM)
  have dbl : ∀ {a b : Nat}, n1 + m2 + 1 ≤ N ∧ n2 + m1 + 1 ≤ N → a ≤ 2 ^ (n1 + m2) → b ≤ 2 ^ (n2 + m1) → a + b ≤ 2 ^ N := by
    intro a b h ha hb
    have h1 : 2 ^ (n1 + m2) ≤ 2 ^ (N - 1) := pow_le (by omega)
    have h2 : 2 ^ (n2 + m1) ≤ 2 ^ (N - 1) := pow_le (by omega)
    have h3 : 2 ^ N = 2 ^ (N - 1) * 2 := by rw [← Nat.pow_succ]; congr 1; omega
    omega
  cases w with
  | mul => exact ⟨Nat.le_trans e3 (pow_le hN), e5⟩
  | add => exact ⟨Nat.le_trans (Int.natAbs_add_le _ _) (dbl hN e1 e2), e5⟩
  | sub => exact ⟨Nat.le_trans (Int.natAbs_sub_le _ _) (dbl hN e1 e2), e5⟩
theorem qop_le {w : Wd} {x y : Qt} {n1 m1 n2 m2 N M : Nat} (hx : QLt x n1 m1) (hy : QLt y n2 m2)
    (hN : match w with | .mul => n1 + n2 ≤ N | _ => n1 + m2 + 1 ≤ N ∧ n2 + m1 + 1 ≤ N) (hM : m1 + m2 ≤ M) : QLt (qop w x y) N M := by
  have h := pre_le (w := w) hx hy hN hM
  exact low_le h.1 h.2
theorem QLt.mono {q : Qt} {n m n' m' : Nat} (h : QLt q n m) (h1 : n ≤ n') (h2 : m ≤ m') : QLt q n' m' := ⟨Nat.le_trans h.1 (pow_le h1), Nat.le_trans h.2 (pow_le h2)⟩
theorem qlt_zero {n m : Nat} : QLt (0, 1) n m := ⟨by simp, Nat.one_le_two_pow⟩
/-- a product with nought -/
theorem qmul_zero_left {y : Qt} (hy : QOk y) : qop .mul (0, 1) y = (0, 1) := by
  show low ((0 : Int) * y.1) ((1 : Int) * y.2) = (0, 1)
  rw [Int.zero_mul, Int.one_mul]
  exact low_zero hy.1
theorem qmul_zero_right {x : Qt} (hx : QOk x) : qop .mul x (0, 1) = (0, 1) := by
  show low (x.1 * (0 : Int)) (x.2 * (1 : Int)) = (0, 1)
  rw [Int.mul_zero, Int.mul_one]
  exact low_zero hx.1
theorem qadd_zero_right {w : Wd} (hw : w ≠ .mul) {x : Qt} (hx : QOk x) : qop w x (0, 1) = x := by
  have e : qop w x (0, 1) = low x.1 x.2 := by
    cases w with
    | mul => exact absurd rfl hw
    | add =>
      show low (x.1 * 1 + 0 * x.2) (x.2 * 1) = _
      rw [Int.mul_one, Int.zero_mul, Int.add_zero, Int.mul_one]
    | sub =>
      show low (x.1 * 1 - 0 * x.2) (x.2 * 1) = _
      rw [Int.mul_one, Int.zero_mul, Int.sub_zero, Int.mul_one]
  rw [e]
  exact low_id hx
theorem qmul_ne {x y : Qt} (hx : QOk x) (hy : QOk y) (h1 : x.1 ≠ 0) (h2 : y.1 ≠ 0) : (qop .mul x y).1 ≠ 0 := by
  intro h
  have hp : 0 < x.2 * y.2 := Int.mul_pos hx.1 hy.1
  have hd : (Int.gcd (x.1 * y.1) (x.2 * y.2) : Int) ∣ x.1 * y.1 := Int.gcd_dvd_left ..
  have h' : (x.1 * y.1) / (Int.gcd (x.1 * y.1) (x.2 * y.2) : Int) = 0 := h
  have e := Int.ediv_mul_cancel hd
  rw [h', Int.zero_mul] at e
  exact Int.mul_ne_zero h1 h2 e.symm
theorem qsign_ne {w : Wd} (hw : w ≠ .mul) {y : Qt} (hy : QOk y) (h2 : y.1 ≠ 0) : (qop w (0, 1) y).1 ≠ 0 := by
  intro h
  cases w with
  | mul => exact hw rfl
  | add =>
    have e : qop .add (0, 1) y = y := by
      show low (0 * y.2 + y.1 * 1) (1 * y.2) = y
      rw [Int.zero_mul, Int.zero_add, Int.mul_one, Int.one_mul]
      exact low_id hy
    rw [e] at h
    exact h2 h
  | sub =>
    have e : qop .sub (0, 1) y = low (-y.1) y.2 := by
      show low (0 * y.2 - y.1 * 1) (1 * y.2) = _
      rw [Int.zero_mul, Int.zero_sub, Int.mul_one, Int.one_mul]
    have hg : Int.gcd (-y.1) y.2 = 1 := by rw [Int.neg_gcd]; exact hy.2
    rw [e] at h
    have h' : (-y.1) / (Int.gcd (-y.1) y.2 : Int) = 0 := h
    rw [hg] at h'
    simp at h'
    exact h2 h'

/-! ### Euclid -/
/-- one turn -/
def eu (p : Nat × Nat) : Nat × Nat := if p.2 = 0 then p else (p.2, p.1 % p.2)
theorem eu_gcd (p : Nat × Nat) : Nat.gcd (eu p).1 (eu p).2 = Nat.gcd p.1 p.2 := by
  unfold eu
  split
  · rfl
  · show Nat.gcd p.2 (p.1 % p.2) = Nat.gcd p.1 p.2
    rw [Nat.gcd_comm p.1 p.2, Nat.gcd_rec p.2 p.1, Nat.gcd_comm]
/-- what holds behind i turns -/
structure EuAt (a b B : Nat) (i : Nat) (l r : Nat) : Prop where
  g : Nat.gcd l r = Nat.gcd a b
  lt : r < l ∨ i = 0
  small : l * r * 2 ^ (i - 1) < 2 ^ (2 * B)
theorem euAt_zero {a b B : Nat} (ha : a < 2 ^ B) (hb : b < 2 ^ B) : EuAt a b B 0 a b := by
  refine ⟨rfl, .inr rfl, ?_⟩
  have h1 : a * b < 2 ^ B * 2 ^ B := Nat.mul_lt_mul'' ha hb
  have h2 : 2 ^ B * 2 ^ B = 2 ^ (2 * B) := by rw [← Nat.pow_add, Nat.two_mul]
  show a * b * 1 < _
  rw [Nat.mul_one]
  omega
theorem euAt_step {a b B i l r : Nat} (h : EuAt a b B i l r) (hr : r ≠ 0) : EuAt a b B (i + 1) r (l % r) := by
  have hlt : l % r < r := Nat.mod_lt _ (by omega)
  refine ⟨?_, .inl hlt, ?_⟩
  · rw [← h.g, Nat.gcd_comm l r, Nat.gcd_rec r l, Nat.gcd_comm]
  · have e5 := h.small
    rw [Nat.mul_comm l r] at e5
    show r * (l % r) * 2 ^ i < 2 ^ (2 * B)
    by_cases h0 : i = 0
    · subst h0
      have e4 : r * (l % r) ≤ r * l := Nat.mul_le_mul_left _ (Nat.mod_le _ _)
      have e6 : r * l * 1 < 2 ^ (2 * B) := e5
      rw [Nat.pow_zero, Nat.mul_one]
      omega
    · have hl : r < l := by
        rcases h.lt with hl | hl
        · exact hl
        · exact absurd hl h0
      have e : l = r * (l / r) + l % r := (Nat.div_add_mod l r).symm
      have q1 : 1 ≤ l / r := Nat.div_pos (Nat.le_of_lt hl) (by omega)
      have e2 : r ≤ r * (l / r) := Nat.le_mul_of_pos_right _ q1
      have h2 : 2 * (l % r) ≤ l := by omega
      have e3 : r * (l % r) * 2 ^ i = r * (2 * (l % r)) * 2 ^ (i - 1) := by
        have : 2 ^ i = 2 * 2 ^ (i - 1) := by rw [← Nat.pow_succ']; congr 1; omega
        rw [this]
        simp only [Nat.mul_comm, Nat.mul_left_comm, Nat.mul_assoc]
      have e4 : r * (2 * (l % r)) * 2 ^ (i - 1) ≤ r * l * 2 ^ (i - 1) := Nat.mul_le_mul_right _ (Nat.mul_le_mul_left _ h2)
      omega
theorem euAt_end {a b B i l r : Nat} (h : EuAt a b B i l r) (hi : 2 * B + 1 ≤ i) : r = 0 ∧ l = Nat.gcd a b := by
  have hr : r = 0 := by
    have hl : r < l := by
      rcases h.lt with hl | hl
      · exact hl
      · omega
    have e5 := h.small
    have e6 : 2 ^ (2 * B) ≤ 2 ^ (i - 1) := Nat.pow_le_pow_right (by decide) (by omega)
    have e7 : l * r < 1 := by
      have : l * r * 2 ^ (i - 1) < 1 * 2 ^ (i - 1) := by omega
      exact Nat.lt_of_mul_lt_mul_right this
    have e8 : l * r = 0 := by omega
    rcases Nat.mul_eq_zero.mp e8 with z | z
    · omega
    · exact z
  have g := h.g
  rw [hr, Nat.gcd_zero_right] at g
  exact ⟨hr, g⟩
end Zm

-- part ZBase
/-! Data, typed slots, what a reading gives at the level of data. -/
namespace Zb
open PySem PySem.Spec PyProof.Rows L2

/-! ### data -/
inductive D where
  | non | bl (b : Bool) | int (i : Int) | str (x : Str) | tup (ds : List D) | dct (kvs : List (List Nat × D))
def kK (k : List Nat) : List Key := k.map fun (n : Nat) => (Sum.inl (n : Int) : Key)
mutual
inductive Dt (H : Hp) : V → D → Prop
  | non : Dt H .non .non
  | bl (b : Bool) : Dt H (.bl b) (.bl b)
  | int (i : Int) : Dt H (.int i) (.int i)
  | str (x : Str) : Dt H (.str x) (.str x)
  | tup {a : Addr} {xs : List V} {ds : List D} : H a = some (.tup xs) → DtAll H xs ds → Dt H (.ref a) (.tup ds)
  | dct {a : Addr} {xs : List (List Key × V)} {ds : List (List Nat × D)} : Rd H a (.dT xs) → DtKs H xs ds → Dt H (.ref a) (.dct ds)
inductive DtAll (H : Hp) : List V → List D → Prop
  | nil : DtAll H [] []
  | cons {v : V} {d : D} {vs : List V} {ds : List D} : Dt H v d → DtAll H vs ds → DtAll H (v :: vs) (d :: ds)
inductive DtKs (H : Hp) : List (List Key × V) → List (List Nat × D) → Prop
  | nil : DtKs H [] []
  | cons {k : List Nat} {v : V} {d : D} {vs : List (List Key × V)} {ds : List (List Nat × D)} : Dt H v d → DtKs H vs ds → DtKs H ((kK k, v) :: vs) ((k, d) :: ds)
end
section
variable {H H' : Hp}
mutual
theorem Dt.mono (ht : ∀ a xs, H a = some (.tup xs) → H' a = some (.tup xs)) (hd : ∀ a xs, Rd H a (.dT xs) → Rd H' a (.dT xs)) : ∀ {v : V} {d : D}, Dt H v d → Dt H' v d
  | _, _, .non => .non
  | _, _, .bl b => .bl b
  | _, _, .int i => .int i
  | _, _, .str x => .str x
  | _, _, .tup h r => .tup (ht _ _ h) (DtAll.mono ht hd r)
  | _, _, .dct h r => .dct (hd _ _ h) (DtKs.mono ht hd r)
theorem DtAll.mono (ht : ∀ a xs, H a = some (.tup xs) → H' a = some (.tup xs)) (hd : ∀ a xs, Rd H a (.dT xs) → Rd H' a (.dT xs)) : ∀ {vs : List V} {ds : List D}, DtAll H vs ds → DtAll H' vs ds
  | _, _, .nil => .nil
  | _, _, .cons a b => .cons (Dt.mono ht hd a) (DtAll.mono ht hd b)
theorem DtKs.mono (ht : ∀ a xs, H a = some (.tup xs) → H' a = some (.tup xs)) (hd : ∀ a xs, Rd H a (.dT xs) → Rd H' a (.dT xs)) : ∀ {vs : List (List Key × V)} {ds : List (List Nat × D)}, DtKs H vs ds → DtKs H' vs ds
  | _, _, .nil => .nil
  | _, _, .cons a b => .cons (Dt.mono ht hd a) (DtKs.mono ht hd b)
end
theorem DtAll.length : ∀ {vs : List V} {ds : List D}, DtAll H vs ds → vs.length = ds.length
  | _, _, .nil => rfl
  | _, _, .cons _ b => congrArg (· + 1) (DtAll.length b)
theorem DtAll.get : ∀ {vs : List V} {ds : List D} {i : Nat} {d : D}, DtAll H vs ds → ds[i]? = some d → ∃ v, vs[i]? = some v ∧ Dt H v d
  | _, _, _, _, .nil, e => by simp at e
  | _, _, 0, _, .cons a _, e => by simp at e; subst e; exact ⟨_, rfl, a⟩
  | _, _, i + 1, d, .cons _ b, e => by
    obtain ⟨v, h1, h2⟩ := DtAll.get (i := i) (d := d) b (by simpa using e)
    exact ⟨v, by simpa using h1, h2⟩
theorem DtAll.getV : ∀ {vs : List V} {ds : List D} {i : Nat} {v : V}, DtAll H vs ds → vs[i]? = some v → ∃ d, ds[i]? = some d ∧ Dt H v d
  | _, _, _, _, .nil, e => by simp at e
  | _, _, 0, _, .cons a _, e => by simp at e; subst e; exact ⟨_, rfl, a⟩
  | _, _, i + 1, v, .cons _ b, e => by
    obtain ⟨d, h1, h2⟩ := DtAll.getV (i := i) (v := v) b (by simpa using e)
    exact ⟨d, by simpa using h1, h2⟩
theorem DtAll.append : ∀ {vs ws : List V} {ds es : List D}, DtAll H vs ds → DtAll H ws es → DtAll H (vs ++ ws) (ds ++ es)
  | _, _, _, _, .nil, h => h
  | _, _, _, _, .cons a b, h => .cons a (DtAll.append b h)
theorem DtAll.one {v : V} {d : D} (h : Dt H v d) : DtAll H [v] [d] := .cons h .nil
theorem DtAll.take : ∀ {vs : List V} {ds : List D} (n : Nat), DtAll H vs ds → DtAll H (vs.take n) (ds.take n)
  | _, _, 0, _ => .nil
  | _, _, _ + 1, .nil => .nil
  | _, _, n + 1, .cons a b => .cons a (DtAll.take n b)
theorem DtAll.drop : ∀ {vs : List V} {ds : List D} (n : Nat), DtAll H vs ds → DtAll H (vs.drop n) (ds.drop n)
  | _, _, 0, h => h
  | _, _, _ + 1, .nil => .nil
  | _, _, n + 1, .cons _ b => DtAll.drop n b
theorem DtAll.reverse : ∀ {vs : List V} {ds : List D}, DtAll H vs ds → DtAll H vs.reverse ds.reverse
  | _, _, .nil => .nil
  | _, _, .cons a b => by
    rw [List.reverse_cons, List.reverse_cons]
    exact (DtAll.reverse b).append (.one a)
theorem DtAll.set {v : V} {d : D} (h : Dt H v d) : ∀ {vs : List V} {ds : List D} (i : Nat), DtAll H vs ds → DtAll H (vs.set i v) (ds.set i d)
  | _, _, _, .nil => .nil
  | _, _, 0, .cons _ b => .cons h b
  | _, _, i + 1, .cons a b => .cons a (DtAll.set h i b)
theorem DtAll.ints : ∀ {ns : List Int} {vs : List V}, DtAll H vs (ns.map D.int) → vs = ns.map V.int
  | [], _, .nil => rfl
  | n :: ns, _, .cons a b => by
    cases a
    rw [DtAll.ints b]
    rfl
theorem DtAll.of_ints : ∀ (ns : List Int), DtAll H (ns.map V.int) (ns.map D.int)
  | [] => .nil
  | n :: ns => .cons (.int n) (DtAll.of_ints ns)
theorem DtAll.bls : ∀ {bs : List Bool} {vs : List V}, DtAll H vs (bs.map D.bl) → vs = bs.map V.bl
  | [], _, .nil => rfl
  | n :: ns, _, .cons a b => by
    cases a
    rw [DtAll.bls b]
    rfl
theorem DtAll.replicate {v : V} {d : D} (h : Dt H v d) : ∀ n : Nat, DtAll H (List.replicate n v) (List.replicate n d)
  | 0 => .nil
  | n + 1 => .cons h (DtAll.replicate h n)
end

/-! ### lists, the row -/
def Ls (H : Hp) (a : Addr) (ds : List D) : Prop := ∃ xs, H a = some (.lst xs) ∧ DtAll H xs ds
def Row (H : Hp) (r : Addr) : Prop := ∃ ns : List Int, H r = some (.lst (ns.map V.int))
/-- what stays: the lists but the row at r, the tuples, the dicts (locked or not); the row stays a row; what stood stands -/
structure Kp (r : Option Addr) (H H' : Hp) : Prop where
  lst : ∀ a xs, some a ≠ r → H a = some (.lst xs) → H' a = some (.lst xs)
  tup : ∀ a xs, H a = some (.tup xs) → H' a = some (.tup xs)
  dct : ∀ a xs, Rd H a (.dT xs) → Rd H' a (.dT xs)
  row : ∀ a, r = some a → Row H a → Row H' a
  there : ∀ a, H' a = none → H a = none
  dx : ∀ a xs, H a = some (.dT xs) → H' a = some (.dT xs)
  fz : ∀ a o u, H a = some (.frz o u) → H' a = some (.frz o u)
/-- the same, where a dict may be locked or let go on the way -/
structure Kw (r : Option Addr) (H H' : Hp) : Prop where
  lst : ∀ a xs, some a ≠ r → H a = some (.lst xs) → H' a = some (.lst xs)
  tup : ∀ a xs, H a = some (.tup xs) → H' a = some (.tup xs)
  dct : ∀ a xs, Rd H a (.dT xs) → Rd H' a (.dT xs)
  row : ∀ a, r = some a → Row H a → Row H' a
  there : ∀ a, H' a = none → H a = none
section
variable {r : Option Addr} {H H1 H2 H' : Hp}
theorem Kp.refl (r : Option Addr) (H : Hp) : Kp r H H := ⟨fun _ _ _ h => h, fun _ _ h => h, fun _ _ h => h, fun _ _ h => h, fun _ h => h, fun _ _ h => h, fun _ _ _ h => h⟩
theorem Kp.trans (a : Kp r H H1) (b : Kp r H1 H2) : Kp r H H2 := ⟨fun x o n h => b.lst x o n (a.lst x o n h), fun x o h => b.tup x o (a.tup x o h), fun x o h => b.dct x o (a.dct x o h), fun x e h => b.row x e (a.row x e h), fun x h => a.there x (b.there x h), fun x o h => b.dx x o (a.dx x o h), fun x o u h => b.fz x o u (a.fz x o u h)⟩
theorem Kp.w (k : Kp r H H') : Kw r H H' := ⟨k.lst, k.tup, k.dct, k.row, k.there⟩
theorem Kw.trans (a : Kw r H H1) (b : Kw r H1 H2) : Kw r H H2 := ⟨fun x o n h => b.lst x o n (a.lst x o n h), fun x o h => b.tup x o (a.tup x o h), fun x o h => b.dct x o (a.dct x o h), fun x e h => b.row x e (a.row x e h), fun x h => a.there x (b.there x h)⟩
theorem Rd.same (h : Same H H') {a : Addr} {u : HO} (e : Rd H a u) : Rd H' a u := by
  rcases e with e | ⟨o, e⟩
  · exact .inl (h a _ e)
  · exact .inr ⟨o, h a _ e⟩
theorem Kp.of (h : Same H H') : Kp r H H' := ⟨fun a o _ e => h a _ e, fun a _ e => h a _ e, fun a _ e => Rd.same h e, fun a _ ⟨ns, e⟩ => ⟨ns, h a _ e⟩, fun a e => h.free e, fun a _ e => h a _ e, fun a _ _ e => h a _ e⟩
theorem same_new {p : Addr} {o : HO} (h : H p = none) : Same H (upd H p o) := fun a u e => by
  rw [upd_ne (ne_of_none e h)]
  exact e
theorem Kp.new {p : Addr} {o : HO} (h : H p = none) : Kp r H (upd H p o) := Kp.of (same_new h)
theorem Rd.ne {p a : Addr} {u : HO} (h : H p = none) (e : Rd H a u) : a ≠ p := by
  rcases e with e | ⟨o, e⟩
  · exact ne_of_none e h
  · exact ne_of_none e h
theorem Rd.updNe {p a : Addr} {u o : HO} (n : a ≠ p) (e : Rd H a u) : Rd (upd H p o) a u := by
  rcases e with e | ⟨o, e⟩
  · exact .inl (by rw [upd_ne n]; exact e)
  · exact .inr ⟨o, by rw [upd_ne n]; exact e⟩
theorem upd_none {p a : Addr} {o : HO} (e : upd H p o a = none) : H a = none ∧ a ≠ p := by
  by_cases h : a = p
  · rw [h, upd_same] at e
    cases e
  · rw [upd_ne h] at e
    exact ⟨e, h⟩
/-- an object that is new since H0 changes -/
theorem Kp.mut {H0 : Hp} {p : Addr} {o : HO} (k : Kp r H0 H) (h : H0 p = none) : Kp r H0 (upd H p o) := by
  have ne : ∀ {a : Addr} {u : HO}, H0 a = some u → a ≠ p := fun e => ne_of_none e h
  refine ⟨fun a u n e => ?_, fun a u e => ?_, fun a u e => ?_, fun a e ⟨ns, z⟩ => ?_, fun a e => k.there a (upd_none e).1, fun a u e => ?_, fun a o' u e => ?_⟩
  · rw [upd_ne (ne e)]; exact k.lst a u n e
  · rw [upd_ne (ne e)]; exact k.tup a u e
  · exact Rd.updNe (Rd.ne h e) (k.dct a u e)
  · obtain ⟨ms, z2⟩ := k.row a e ⟨ns, z⟩
    exact ⟨ms, by rw [upd_ne (ne z)]; exact z2⟩
  · rw [upd_ne (ne e)]; exact k.dx a u e
  · rw [upd_ne (ne e)]; exact k.fz a o' u e
/-- a dict is locked, is let go -/
theorem Kw.lock {p : Addr} {o : Obj} {kvs : List (List Key × V)} (h : H p = some (.dT kvs)) : Kw r H (upd H p (.frz o (.dT kvs))) := by
  refine ⟨fun a u n e => ?_, fun a u e => ?_, fun a u e => ?_, fun a e ⟨ns, z⟩ => ⟨ns, ?_⟩, fun a e => (upd_none e).1⟩
  · rw [upd_ne (ne_of e h (by intro z; cases z))]; exact e
  · rw [upd_ne (ne_of e h (by intro z; cases z))]; exact e
  · by_cases ha : a = p
    · subst ha
      rcases e with e | ⟨o', e⟩
      · rw [h] at e
        cases e
        exact .inr ⟨o, upd_same⟩
      · rw [h] at e
        cases e
    · exact Rd.updNe ha e
  · rw [upd_ne (ne_of z h (by intro z; cases z))]; exact z
theorem Kw.unlock {p : Addr} {o : Obj} {kvs : List (List Key × V)} (h : H p = some (.frz o (.dT kvs))) : Kw r H (upd H p (.dT kvs)) := by
  refine ⟨fun a u n e => ?_, fun a u e => ?_, fun a u e => ?_, fun a e ⟨ns, z⟩ => ⟨ns, ?_⟩, fun a e => (upd_none e).1⟩
  · rw [upd_ne (ne_of e h (by intro z; cases z))]; exact e
  · rw [upd_ne (ne_of e h (by intro z; cases z))]; exact e
  · by_cases ha : a = p
    · subst ha
      rcases e with e | ⟨o', e⟩
      · rw [h] at e
        cases e
      · rw [h] at e
        cases e
        exact .inl upd_same
    · exact Rd.updNe ha e
  · rw [upd_ne (ne_of z h (by intro z; cases z))]; exact z
/-- the base is locked with it -/
theorem Kp.lock2 {H0 : Hp} {p : Addr} {o : Obj} {kvs : List (List Key × V)} (k : Kp r H0 H) (h : H0 p = some (.dT kvs)) : Kp r (upd H0 p (.frz o (.dT kvs))) (upd H p (.frz o (.dT kvs))) := by
  have h' := k.dx p kvs h
  have pick : ∀ {a : Addr} {w : HO}, upd H0 p (.frz o (.dT kvs)) a = some w → (a = p ∧ w = .frz o (.dT kvs)) ∨ (a ≠ p ∧ H0 a = some w) := fun {a w} e => by
    by_cases ha : a = p
    · subst ha
      rw [upd_same] at e
      exact .inl ⟨rfl, (Option.some.inj e).symm⟩
    · rw [upd_ne ha] at e
      exact .inr ⟨ha, e⟩
  refine ⟨fun a u n e => ?_, fun a u e => ?_, fun a u e => ?_, fun a e ⟨ns, z⟩ => ?_, fun a e => ?_, fun a u e => ?_, fun a o' u e => ?_⟩
  · rcases pick e with ⟨_, z⟩ | ⟨n2, e⟩
    · cases z
    · rw [upd_ne n2]; exact k.lst a u n e
  · rcases pick e with ⟨_, z⟩ | ⟨n2, e⟩
    · cases z
    · rw [upd_ne n2]; exact k.tup a u e
  · by_cases ha : a = p
    · subst ha
      rcases e with e | ⟨o', e⟩
      · rw [upd_same] at e
        cases e
      · rw [upd_same] at e
        cases e
        exact .inr ⟨o, upd_same⟩
    · rcases e with e | ⟨o', e⟩
      · rw [upd_ne ha] at e
        exact Rd.updNe ha (k.dct a u (.inl e))
      · rw [upd_ne ha] at e
        exact Rd.updNe ha (k.dct a u (.inr ⟨o', e⟩))
  · rcases pick z with ⟨_, z⟩ | ⟨n2, z⟩
    · cases z
    · obtain ⟨ms, z2⟩ := k.row a e ⟨ns, z⟩
      exact ⟨ms, by rw [upd_ne n2]; exact z2⟩
  · obtain ⟨e1, n2⟩ := upd_none e
    rw [upd_ne n2]
    exact k.there a e1
  · rcases pick e with ⟨_, z⟩ | ⟨n2, e⟩
    · cases z
    · rw [upd_ne n2]; exact k.dx a u e
  · rcases pick e with ⟨e1, z⟩ | ⟨n2, e⟩
    · rw [e1, z, upd_same]
    · rw [upd_ne n2]; exact k.fz a o' u e
theorem Kp.unlock2 {H0 : Hp} {p : Addr} {o : Obj} {kvs : List (List Key × V)} (h : H0 p = some (.dT kvs)) (k : Kp r (upd H0 p (.frz o (.dT kvs))) H) : Kp r H0 (upd H p (.dT kvs)) := by
  have up : ∀ {a : Addr} {w : HO}, a ≠ p → H0 a = some w → upd H0 p (.frz o (.dT kvs)) a = some w := fun n e => by rw [upd_ne n]; exact e
  refine ⟨fun a u n e => ?_, fun a u e => ?_, fun a u e => ?_, fun a e ⟨ns, z⟩ => ?_, fun a e => ?_, fun a u e => ?_, fun a o' u e => ?_⟩
  · have n2 := ne_of e h (by intro z; cases z)
    rw [upd_ne n2]; exact k.lst a u n (up n2 e)
  · have n2 := ne_of e h (by intro z; cases z)
    rw [upd_ne n2]; exact k.tup a u (up n2 e)
  · by_cases ha : a = p
    · subst ha
      rcases e with e | ⟨o', e⟩
      · rw [h] at e
        cases e
        exact .inl upd_same
      · rw [h] at e
        cases e
    · exact Rd.updNe ha (k.dct a u (Rd.updNe ha e))
  · have n2 := ne_of z h (by intro z; cases z)
    obtain ⟨ms, z2⟩ := k.row a e ⟨ns, up n2 z⟩
    exact ⟨ms, by rw [upd_ne n2]; exact z2⟩
  · obtain ⟨e1, n2⟩ := upd_none e
    have := k.there a e1
    rw [upd_ne n2] at this
    exact this
  · by_cases ha : a = p
    · subst ha
      rw [h] at e
      cases e
      exact upd_same
    · rw [upd_ne ha]; exact k.dx a u (up ha e)
  · have n2 := ne_of e h (by intro z; cases z)
    rw [upd_ne n2]; exact k.fz a o' u (up n2 e)
theorem Kw.dt {v : V} {d : D} (k : Kw r H H') (h : Dt H v d) : Dt H' v d := h.mono k.tup k.dct
theorem Kw.dts {v : List V} {d : List D} (k : Kw r H H') (h : DtAll H v d) : DtAll H' v d := h.mono k.tup k.dct
theorem Kw.ls {a : Addr} {ds : List D} (k : Kw r H H') (n : some a ≠ r) (h : Ls H a ds) : Ls H' a ds := by
  obtain ⟨xs, e, q⟩ := h
  exact ⟨xs, k.lst a _ n e, k.dts q⟩
theorem Kp.dt {v : V} {d : D} (k : Kp r H H') (h : Dt H v d) : Dt H' v d := h.mono k.tup k.dct
theorem Kp.dts {v : List V} {d : List D} (k : Kp r H H') (h : DtAll H v d) : DtAll H' v d := h.mono k.tup k.dct
theorem Kp.ls {a : Addr} {ds : List D} (k : Kp r H H') (n : some a ≠ r) (h : Ls H a ds) : Ls H' a ds := by
  obtain ⟨xs, e, q⟩ := h
  exact ⟨xs, k.lst a _ n e, k.dts q⟩
theorem Kp.fresh {p : Addr} (k : Kp r H H') (h : H' p = none) : H p = none := k.there p h
end

/-! ### slots -/
inductive Sl where
  | any | dat (d : D) | lst (a : Addr) (ds : List D) | row (a : Addr) | tl (ss : List Sl) | ty (n : String) | adr (a : Addr)
mutual
inductive Sv (r : Option Addr) (H : Hp) : V → Sl → Prop
  | any (v : V) : Sv r H v .any
  | dat {v : V} {d : D} : Dt H v d → Sv r H v (.dat d)
  | lst {a : Addr} {ds : List D} : some a ≠ r → Ls H a ds → Sv r H (.ref a) (.lst a ds)
  | row {a : Addr} : r = some a → Row H a → Sv r H (.ref a) (.row a)
  | tl {a : Addr} {xs : List V} {ss : List Sl} : H a = some (.tup xs) → SvAll r H xs ss → Sv r H (.ref a) (.tl ss)
  | ty (n : String) : Sv r H (.ty n) (.ty n)
  | adr (a : Addr) : Sv r H (.ref a) (.adr a)
inductive SvAll (r : Option Addr) (H : Hp) : List V → List Sl → Prop
  | nil : SvAll r H [] []
  | cons {v : V} {s : Sl} {vs : List V} {ss : List Sl} : Sv r H v s → SvAll r H vs ss → SvAll r H (v :: vs) (s :: ss)
end
section
variable {r : Option Addr} {H H' : Hp}
mutual
theorem Sv.mono (k : Kp r H H') : ∀ {v : V} {s : Sl}, Sv r H v s → Sv r H' v s
  | _, _, .any v => .any v
  | _, _, .dat h => .dat (k.dt h)
  | _, _, .lst n h => .lst n (k.ls n h)
  | _, _, .row e h => .row e (k.row _ e h)
  | _, _, .tl h q => .tl (k.tup _ _ h) (SvAll.mono k q)
  | _, _, .ty n => .ty n
  | _, _, .adr a => .adr a
theorem SvAll.mono (k : Kp r H H') : ∀ {vs : List V} {ss : List Sl}, SvAll r H vs ss → SvAll r H' vs ss
  | _, _, .nil => .nil
  | _, _, .cons a b => .cons (Sv.mono k a) (SvAll.mono k b)
end
mutual
theorem Sv.monoW (k : Kw r H H') : ∀ {v : V} {s : Sl}, Sv r H v s → Sv r H' v s
  | _, _, .any v => .any v
  | _, _, .dat h => .dat (k.dt h)
  | _, _, .lst n h => .lst n (k.ls n h)
  | _, _, .row e h => .row e (k.row _ e h)
  | _, _, .tl h q => .tl (k.tup _ _ h) (SvAll.monoW k q)
  | _, _, .ty n => .ty n
  | _, _, .adr a => .adr a
theorem SvAll.monoW (k : Kw r H H') : ∀ {vs : List V} {ss : List Sl}, SvAll r H vs ss → SvAll r H' vs ss
  | _, _, .nil => .nil
  | _, _, .cons a b => .cons (Sv.monoW k a) (SvAll.monoW k b)
end
theorem Sv.d {v : V} {d : D} (h : Sv r H v (.dat d)) : Dt H v d := by
  cases h with
  | dat h => exact h
theorem SvAll.get : ∀ {vs : List V} {ss : List Sl} {i : Nat} {s : Sl}, SvAll r H vs ss → ss[i]? = some s → ∃ v, vs[i]? = some v ∧ Sv r H v s
  | _, _, _, _, .nil, e => by simp at e
  | _, _, 0, _, .cons a _, e => by simp at e; subst e; exact ⟨_, rfl, a⟩
  | _, _, i + 1, d, .cons _ b, e => by
    obtain ⟨v, h1, h2⟩ := SvAll.get (i := i) (s := d) b (by simpa using e)
    exact ⟨v, by simpa using h1, h2⟩
theorem SvAll.length : ∀ {vs : List V} {ss : List Sl}, SvAll r H vs ss → vs.length = ss.length
  | _, _, .nil => rfl
  | _, _, .cons _ b => congrArg (· + 1) (SvAll.length b)
theorem SvAll.dts : ∀ {vs : List V} {ds : List D}, SvAll r H vs (ds.map .dat) → DtAll H vs ds
  | _, [], .nil => .nil
  | _, _ :: _, .cons a b => .cons a.d (SvAll.dts b)
theorem SvAll.append : ∀ {vs ws : List V} {ss ts : List Sl}, SvAll r H vs ss → SvAll r H ws ts → SvAll r H (vs ++ ws) (ss ++ ts)
  | _, _, _, _, .nil, h => h
  | _, _, _, _, .cons a b, h => .cons a (SvAll.append b h)
end
/-- one slot -/
inductive SlOk (r : Option Addr) (H : Hp) : Option V → Sl → Prop
  | any {o : Option V} : SlOk r H o .any
  | of {v : V} {s : Sl} : Sv r H v s → SlOk r H (some v) s
inductive EnS (r : Option Addr) (H : Hp) : L2.St → List Sl → Prop
  | nil : EnS r H [] []
  | cons {o : Option V} {s : Sl} {σ : L2.St} {G : List Sl} : SlOk r H o s → EnS r H σ G → EnS r H (o :: σ) (s :: G)
/-- the slots are as G says, the row is one -/
structure En (r : Option Addr) (H : Hp) (σ : L2.St) (G : List Sl) : Prop where
  sl : EnS r H σ G
  rk : ∀ a, r = some a → Row H a
section
variable {r : Option Addr} {H H1 H2 H' : Hp} {σ : L2.St} {G : List Sl}
theorem SlOk.mono {o : Option V} {s : Sl} (k : Kp r H H') (h : SlOk r H o s) : SlOk r H' o s := by
  cases h with
  | any => exact .any
  | of h => exact .of (h.mono k)
theorem SlOk.get {o : Option V} {s : Sl} (hs : s ≠ .any) (h : SlOk r H o s) : ∃ v, o = some v ∧ Sv r H v s := by
  cases h with
  | any => exact absurd rfl hs
  | of h => exact ⟨_, rfl, h⟩
theorem EnS.mono (k : Kp r H H') : ∀ {σ : L2.St} {G : List Sl}, EnS r H σ G → EnS r H' σ G
  | _, _, .nil => .nil
  | _, _, .cons a b => .cons (a.mono k) (EnS.mono k b)
theorem EnS.set {v : V} {s : Sl} (h : Sv r H v s) : ∀ {σ : L2.St} {G : List Sl} (i : Nat), EnS r H σ G → EnS r H (σ.set i (some v)) (G.set i s)
  | _, _, _, .nil => .nil
  | _, _, 0, .cons _ b => .cons (.of h) b
  | _, _, i + 1, .cons a b => .cons a (EnS.set h i b)
theorem EnS.get {s : Sl} (hs : s ≠ .any) : ∀ {σ : L2.St} {G : List Sl} {i : Nat}, EnS r H σ G → G[i]? = some s → ∃ v, σ[i]? = some (some v) ∧ Sv r H v s
  | _, _, _, .nil, e => by simp at e
  | _, _, 0, .cons a _, e => by
    simp at e
    subst e
    obtain ⟨v, e, q⟩ := SlOk.get hs a
    exact ⟨v, by simp [e], q⟩
  | _, _, i + 1, .cons _ b, e => by
    obtain ⟨v, h1, h2⟩ := EnS.get hs (i := i) b (by simpa using e)
    exact ⟨v, by simpa using h1, h2⟩
theorem EnS.drop : ∀ {σ : L2.St} {G : List Sl} (i : Nat), EnS r H σ G → EnS r H σ (G.set i .any)
  | _, _, _, .nil => .nil
  | _, _, 0, .cons _ b => .cons .any b
  | _, _, i + 1, .cons a b => .cons a (EnS.drop i b)
theorem EnS.wipe1 : ∀ {σ : L2.St} {G : List Sl} (i : Nat), EnS r H σ G → EnS r H (σ.set i none) (G.set i .any)
  | _, _, _, .nil => .nil
  | _, _, 0, .cons _ b => .cons .any b
  | _, _, i + 1, .cons a b => .cons a (EnS.wipe1 i b)
theorem EnS.length : ∀ {σ : L2.St} {G : List Sl}, EnS r H σ G → σ.length = G.length
  | _, _, .nil => rfl
  | _, _, .cons _ b => congrArg (· + 1) (EnS.length b)
theorem EnS.nones : ∀ n : Nat, EnS r H (List.replicate n none) (List.replicate n .any)
  | 0 => .nil
  | n + 1 => .cons .any (EnS.nones n)
theorem EnS.of_args : ∀ {vs : List V} {ss : List Sl} {σ : L2.St} {G : List Sl}, SvAll r H vs ss → EnS r H σ G → EnS r H (vs.map some ++ σ) (ss ++ G)
  | _, _, _, _, .nil, h => h
  | _, _, _, _, .cons a b, h => .cons (.of a) (EnS.of_args b h)
theorem En.mono (k : Kp r H H') (e : En r H σ G) : En r H' σ G := ⟨e.sl.mono k, fun a z => k.row a z (e.rk a z)⟩
theorem SlOk.monoW {o : Option V} {s : Sl} (k : Kw r H H') (h : SlOk r H o s) : SlOk r H' o s := by
  cases h with
  | any => exact .any
  | of h => exact .of (h.monoW k)
theorem EnS.monoW (k : Kw r H H') : ∀ {σ : L2.St} {G : List Sl}, EnS r H σ G → EnS r H' σ G
  | _, _, .nil => .nil
  | _, _, .cons a b => .cons (a.monoW k) (EnS.monoW k b)
theorem En.monoW (k : Kw r H H') (e : En r H σ G) : En r H' σ G := ⟨e.sl.monoW k, fun a z => k.row a z (e.rk a z)⟩
theorem En.set {v : V} {s : Sl} (e : En r H σ G) (i : Nat) (h : Sv r H v s) : En r H (σ.set i (some v)) (G.set i s) := ⟨e.sl.set h i, e.rk⟩
theorem En.get {s : Sl} {i : Nat} (e : En r H σ G) (hg : G[i]? = some s) (hs : s ≠ .any) : ∃ v, σ[i]? = some (some v) ∧ Sv r H v s := e.sl.get hs hg
theorem En.drop (e : En r H σ G) (i : Nat) : En r H σ (G.set i .any) := ⟨e.sl.drop i, e.rk⟩
theorem En.wipe1 (e : En r H σ G) (i : Nat) : En r H (σ.set i none) (G.set i .any) := ⟨e.sl.wipe1 i, e.rk⟩
theorem En.fresh (e : En r H σ G) {p : Addr} (h : H p = none) : some p ≠ r := fun z => by
  obtain ⟨ns, q⟩ := e.rk p z.symm
  rw [h] at q
  cases q
/-- at a def's entry -/
theorem En.start {N : List Str} {vs : List V} {ss : List Sl} (h : SvAll r H vs ss) (rk : ∀ a, r = some a → Row H a) : En r H (L2.start N vs) (ss ++ List.replicate (N.length - ss.length) .any) := by
  unfold L2.start
  rw [h.length]
  exact ⟨EnS.of_args h (EnS.nones _), rk⟩
theorem Rd.neL {a c : Addr} {xs : List V} {ys : List (List Key × V)} (ha : H a = some (.lst xs)) (e : Rd H c (.dT ys)) : c ≠ a := by
  rcases e with e | ⟨o, e⟩
  · exact ne_of e ha (by intro z; cases z)
  · exact ne_of e ha (by intro z; cases z)
/-- no slot but those of the list at a -/
def noAl (a : Addr) : List Sl → Prop
  | [] => True
  | .lst b _ :: G => b ≠ a ∧ noAl a G
  | .tl _ :: _ => False
  | _ :: G => noAl a G
theorem EnS.upd {a : Addr} {o : HO} {xs : List V} (ha : H a = some (.lst xs)) (na : some a ≠ r) : ∀ {σ : L2.St} {G : List Sl}, EnS r H σ G → noAl a G → EnS r (L2.upd H a o) σ G
  | _, _, .nil, _ => .nil
  | _, _, .cons h b, z => by
    have nt : ∀ (c : Addr) (ys : List V), H c = some (.tup ys) → L2.upd H a o c = some (.tup ys) := fun c ys e => by rw [upd_ne (ne_of e ha (by intro z; cases z))]; exact e
    have nd : ∀ (c : Addr) (ys : List (List Key × V)), Rd H c (.dT ys) → Rd (L2.upd H a o) c (.dT ys) := fun c ys e => Rd.updNe (Rd.neL ha e) e
    cases h with
    | any => exact .cons .any (EnS.upd ha na b z)
    | of h =>
      cases h with
      | any v => exact .cons .any (EnS.upd ha na b z)
      | dat h => exact .cons (.of (.dat (h.mono nt nd))) (EnS.upd ha na b z)
      | lst n h =>
        obtain ⟨ys, e, q⟩ := h
        exact .cons (.of (.lst n ⟨ys, by rw [upd_ne z.1]; exact e, q.mono nt nd⟩)) (EnS.upd ha na b z.2)
      | row e h =>
        obtain ⟨ns, q⟩ := h
        refine .cons (.of (.row e ⟨ns, ?_⟩)) (EnS.upd ha na b z)
        rw [upd_ne fun y => na (by rw [← y]; exact e.symm)]
        exact q
      | tl h q => exact z.elim
      | ty n => exact .cons (.of (.ty n)) (EnS.upd ha na b z)
      | adr c => exact .cons (.of (.adr c)) (EnS.upd ha na b z)
theorem En.updA {a : Addr} {xs ys : List V} (e : En r H σ G) (ha : H a = some (.lst xs)) (na : some a ≠ r) (hal : noAl a G) : En r (L2.upd H a (.lst ys)) σ G := by
  refine ⟨EnS.upd (o := .lst ys) ha na e.sl hal, fun b eb => ?_⟩
  obtain ⟨ns, q⟩ := e.rk b eb
  refine ⟨ns, ?_⟩
  rw [upd_ne fun y => na (by rw [← y]; exact eb.symm)]
  exact q
theorem En.upd {a : Addr} {i : Nat} {xs ys : List V} {es : List D} (e : En r H σ G) (ha : H a = some (.lst xs)) (na : some a ≠ r) (hs : σ[i]? = some (some (.ref a))) (hal : noAl a (G.set i .any)) (hy : DtAll H ys es) : En r (L2.upd H a (.lst ys)) σ (G.set i (.lst a es)) := by
  have nt : ∀ (c : Addr) (zs : List V), H c = some (.tup zs) → L2.upd H a (.lst ys) c = some (.tup zs) := fun c zs e => by rw [upd_ne (ne_of e ha (by intro z; cases z))]; exact e
  have nd : ∀ (c : Addr) (zs : List (List Key × V)), Rd H c (.dT zs) → Rd (L2.upd H a (.lst ys)) c (.dT zs) := fun c zs e => Rd.updNe (Rd.neL ha e) e
  have e1 := EnS.upd (o := .lst ys) ha na (e.drop i).sl hal
  have e2 := e1.set (v := .ref a) (s := .lst a es) (.lst na ⟨ys, upd_same, hy.mono nt nd⟩) i
  rw [List.set_set] at e2
  have e3 : σ.set i (some (V.ref a)) = σ := by
    apply List.ext_getElem?
    intro j
    by_cases hj : i = j
    · subst hj
      have hl : i < σ.length := (List.getElem?_eq_some_iff.mp hs).1
      rw [List.getElem?_set_self hl, hs]
    · rw [List.getElem?_set_ne hj]
  rw [e3] at e2
  refine ⟨e2, fun b eb => ?_⟩
  obtain ⟨ns, q⟩ := e.rk b eb
  refine ⟨ns, ?_⟩
  rw [upd_ne fun y => na (by rw [← y]; exact eb.symm)]
  exact q
end
end Zb

-- part ZEd
namespace Zb
open PySem PySem.Spec PyProof.Rows L2
/-! ### what evaluates to what -/
def Ev (r : Option Addr) (te : TE) (G : List Sl) (P : Sl → Prop) : Prop := ∀ σ H, En r H σ G → ∀ Q : VK, (∀ v H2 s, Kp r H H2 → Sv r H2 v s → P s → Q v H2) → te σ H Q
/-- a new list -/
def El (r : Option Addr) (te : TE) (G : List Sl) (P : List D → Prop) : Prop := ∀ σ H, En r H σ G → ∀ Q : VK, (∀ p H2 ds, H p = none → some p ≠ r → Kp r H H2 → Ls H2 p ds → P ds → Q (.ref p) H2) → te σ H Q
def Et (r : Option Addr) (tt : TT) (G : List Sl) (P : Bool → Prop) : Prop := ∀ σ H, En r H σ G → ∀ Q : Bool → Hp → Prop, (∀ b H2, Kp r H H2 → P b → Q b H2) → tt σ H Q
def Ea (r : Option Addr) (ta : TA) (G : List Sl) (P : List Sl → Prop) : Prop := ∀ σ H, En r H σ G → ∀ Q : List V → Hp → Prop, (∀ vs H2 ss, Kp r H H2 → SvAll r H2 vs ss → P ss → Q vs H2) → ta σ H Q
def Eo (r : Option Addr) (to : TO) (G : List Sl) (o : Option Int) : Prop := ∀ σ H, En r H σ G → ∀ Q : Option Int → Hp → Prop, (∀ H2, Kp r H H2 → Q o H2) → to σ H Q
/-- operators, calls on values -/
def RD (r : Option Addr) (R : R2) (s t : Sl) (P : Sl → Prop) : Prop := ∀ H x y, Sv r H x s → Sv r H y t → (∀ a, r = some a → Row H a) → ∀ Q : VK, (∀ v H2 u, Kp r H H2 → Sv r H2 v u → P u → Q v H2) → R x y H Q
def RC (r : Option Addr) (R : List V → Hp → VK → Prop) (ss : List Sl) (P : Sl → Prop) : Prop := ∀ H vs, SvAll r H vs ss → (∀ a, r = some a → Row H a) → ∀ Q : VK, (∀ v H2 u, Kp r H H2 → Sv r H2 v u → P u → Q v H2) → R vs H Q
def RL (r : Option Addr) (R : List V → Hp → VK → Prop) (ss : List Sl) (P : List D → Prop) : Prop := ∀ H vs, SvAll r H vs ss → (∀ a, r = some a → Row H a) → ∀ Q : VK, (∀ p H2 ds, H p = none → some p ≠ r → Kp r H H2 → Ls H2 p ds → P ds → Q (.ref p) H2) → R vs H Q
abbrev Ed (r : Option Addr) (te : TE) (G : List Sl) (d : D) : Prop := Ev r te G (fun s => s = .dat d)
abbrev Eb (r : Option Addr) (tt : TT) (G : List Sl) (b : Bool) : Prop := Et r tt G (fun c => c = b)
theorem fresh_rk {r : Option Addr} {H : Hp} (rk : ∀ a, r = some a → Row H a) {p : Addr} (h : H p = none) : some p ≠ r := fun z => by
  obtain ⟨ns, q⟩ := rk p z.symm
  rw [h] at q
  cases q
theorem Kp.rk {r : Option Addr} {H H' : Hp} (k : Kp r H H') (rk : ∀ a, r = some a → Row H a) : ∀ a, r = some a → Row H' a := fun a e => k.row a e (rk a e)
section
variable {r : Option Addr} {K : PySem.W.Frag} {G : List Sl} {ta tb te : TE} {tt uu : TT} {P P1 P2 : Sl → Prop}
theorem Ev.imp (h : Ev r te G P1) (i : ∀ s, P1 s → P s) : Ev r te G P := fun σ H e Q q => h σ H e Q fun v H2 s k sv p => q v H2 s k sv (i s p)
theorem Ed.is {d d' : D} (h : Ed r te G d) (e : d = d') : Ed r te G d' := e ▸ h
theorem Et.imp {P1 P : Bool → Prop} (h : Et r tt G P1) (i : ∀ s, P1 s → P s) : Et r tt G P := fun σ H e Q q => h σ H e Q fun v H2 k p => q v H2 k (i v p)
theorem Eb.is {d d' : Bool} (h : Eb r tt G d) (e : d = d') : Eb r tt G d' := e ▸ h
theorem El.imp {P1 P : List D → Prop} (h : El r te G P1) (i : ∀ s, P1 s → P s) : El r te G P := fun σ H e Q q => h σ H e Q fun p H2 ds a b c d f => q p H2 ds a b c d (i ds f)
theorem ev_var {i : Nat} {s : Sl} (hg : G[i]? = some s) (hs : s ≠ .any := by intro z; cases z) : Ev r (tVar i) G (fun t => t = s) := fun σ H e Q q => by
  obtain ⟨v, h1, h2⟩ := e.get hg hs
  exact ⟨v, h1, q v H s (Kp.refl r H) h2 rfl⟩
theorem ed_var {i : Nat} {d : D} (hg : G[i]? = some (.dat d)) : Ed r (tVar i) G d := ev_var hg
theorem ed_int {i : Int} : Ed r (tC (.int i)) G (.int i) := fun σ H e Q q => q _ H _ (Kp.refl r H) (.dat (.int i)) rfl
theorem ed_bl {i : Bool} : Ed r (tC (.bl i)) G (.bl i) := fun σ H e Q q => q _ H _ (Kp.refl r H) (.dat (.bl i)) rfl
theorem ed_str {i : Str} : Ed r (tC (.str i)) G (.str i) := fun σ H e Q q => q _ H _ (Kp.refl r H) (.dat (.str i)) rfl
theorem ed_non : Ed r (tC .non) G .non := fun σ H e Q q => q _ H _ (Kp.refl r H) (.dat .non) rfl
theorem ev_op {R : R2} (ha : Ev r ta G P1) (hb : Ev r tb G P2) (hr : ∀ s t, P1 s → P2 t → RD r R s t P) : Ev r (tOp R ta tb) G P := fun σ H e Q q =>
  ha σ H e _ fun x H2 s k2 sx px => hb σ H2 (e.mono k2) _ fun y H3 t k3 sy py =>
    hr s t px py H3 x y (sx.mono k3) sy (k3.rk (k2.rk e.rk)) Q fun v H4 u k4 sv pu => q v H4 u ((k2.trans k3).trans k4) sv pu
theorem ev_op' {R : R2} {s t : Sl} (ha : Ev r ta G (fun x => x = s)) (hb : Ev r tb G (fun x => x = t)) (hr : RD r R s t P) : Ev r (tOp R ta tb) G P :=
  ev_op ha hb fun _ _ e1 e2 => e1 ▸ e2 ▸ hr
theorem ev_un {R : V → Hp → VK → Prop} {s : Sl} (ha : Ev r ta G (fun x => x = s)) (hr : ∀ H x, Sv r H x s → ∀ Q : VK, (∀ v u, Sv r H v u → P u → Q v H) → R x H Q) : Ev r (tUn R ta) G P := fun σ H e Q q =>
  ha σ H e _ fun x H2 s' k2 sx px => hr H2 x (px ▸ sx) Q fun v u sv pu => q v H2 u k2 sv pu
theorem rd_int {f : Int → Int → Int} {i j : Int} : RD r (rI0 fun i j => .int (f i j)) (.dat (.int i)) (.dat (.int j)) (fun s => s = .dat (.int (f i j))) := fun H x y hx hy rk Q q => by
  cases hx.d
  cases hy.d
  exact ⟨i, j, rfl, rfl, q _ H _ (Kp.refl r H) (.dat (.int _)) rfl⟩
theorem rd_intC {C : Int → Int → Prop} {f : Int → Int → Int} {i j : Int} (hc : C i j) : RD r (rI C fun i j => .int (f i j)) (.dat (.int i)) (.dat (.int j)) (fun s => s = .dat (.int (f i j))) := fun H x y hx hy rk Q q => by
  cases hx.d
  cases hy.d
  exact ⟨i, j, rfl, rfl, hc, q _ H _ (Kp.refl r H) (.dat (.int _)) rfl⟩
theorem rd_cmp {f : Int → Int → Bool} {i j : Int} : RD r (rI0 fun i j => .bl (f i j)) (.dat (.int i)) (.dat (.int j)) (fun s => s = .dat (.bl (f i j))) := fun H x y hx hy rk Q q => by
  cases hx.d
  cases hy.d
  exact ⟨i, j, rfl, rfl, q _ H _ (Kp.refl r H) (.dat (.bl _)) rfl⟩
theorem ed_op {R : R2} {a b c : D} (ha : Ed r ta G a) (hb : Ed r tb G b) (hr : RD r R (.dat a) (.dat b) (fun s => s = .dat c)) : Ed r (tOp R ta tb) G c := ev_op' ha hb hr
/-- ints -/
theorem ed_i {f : Int → Int → Int} {i j : Int} (ha : Ed r ta G (.int i)) (hb : Ed r tb G (.int j)) : Ed r (tOp (rI0 fun i j => .int (f i j)) ta tb) G (.int (f i j)) := ed_op ha hb rd_int
theorem ed_iC {C : Int → Int → Prop} {f : Int → Int → Int} {i j : Int} (ha : Ed r ta G (.int i)) (hb : Ed r tb G (.int j)) (hc : C i j) : Ed r (tOp (rI C fun i j => .int (f i j)) ta tb) G (.int (f i j)) := ed_op ha hb (rd_intC hc)
theorem ed_c {f : Int → Int → Bool} {i j : Int} (ha : Ed r ta G (.int i)) (hb : Ed r tb G (.int j)) : Ed r (tOp (rI0 fun i j => .bl (f i j)) ta tb) G (.bl (f i j)) := ed_op ha hb rd_cmp
theorem ed_neg {i : Int} (ha : Ed r ta G (.int i)) : Ed r (tUn (rU fun i => .int (-i)) ta) G (.int (-i)) := ev_un ha fun H x hx Q q => by
  cases hx.d
  exact ⟨i, rfl, q _ _ (.dat (.int _)) rfl⟩
/-- == of scalars -/
theorem ed_eqI {i j : Int} (ha : Ed r ta G (.int i)) (hb : Ed r tb G (.int j)) : Ed r (tOp rEq ta tb) G (.bl (decide (i = j))) := ed_op ha hb fun H x y hx hy rk Q q => by
  cases hx.d
  cases hy.d
  refine ⟨rfl, q _ H _ (Kp.refl r H) (.dat (.bl _)) ?_⟩
  rw [show decide (V.int i = V.int j) = decide (i = j) by simp]
theorem ed_neI {i j : Int} (ha : Ed r ta G (.int i)) (hb : Ed r tb G (.int j)) : Ed r (tOp rNe ta tb) G (.bl (!decide (i = j))) := ed_op ha hb fun H x y hx hy rk Q q => by
  cases hx.d
  cases hy.d
  refine ⟨rfl, q _ H _ (Kp.refl r H) (.dat (.bl _)) ?_⟩
  rw [show decide (V.int i = V.int j) = decide (i = j) by simp]
theorem ed_eqS {i j : Str} (ha : Ed r ta G (.str i)) (hb : Ed r tb G (.str j)) : Ed r (tOp rEq ta tb) G (.bl (decide (i = j))) := ed_op ha hb fun H x y hx hy rk Q q => by
  cases hx.d
  cases hy.d
  refine ⟨rfl, q _ H _ (Kp.refl r H) (.dat (.bl _)) ?_⟩
  rw [show decide (V.str i = V.str j) = decide (i = j) by simp]
theorem ed_neS {i j : Str} (ha : Ed r ta G (.str i)) (hb : Ed r tb G (.str j)) : Ed r (tOp rNe ta tb) G (.bl (!decide (i = j))) := ed_op ha hb fun H x y hx hy rk Q q => by
  cases hx.d
  cases hy.d
  refine ⟨rfl, q _ H _ (Kp.refl r H) (.dat (.bl _)) ?_⟩
  rw [show decide (V.str i = V.str j) = decide (i = j) by simp]
def D.isN : D → Bool
  | .non => true
  | _ => false
theorem isN_of {H : Hp} {x : V} {d : D} (h : Dt H x d) : decide (x = V.non) = d.isN := by
  cases h <;> simp [D.isN]
theorem ed_isN {d : D} (ha : Ed r ta G d) : Ed r (tIsN ta) G (.bl d.isN) := fun σ H e Q q =>
  ha σ H e _ fun x H2 s k2 sx px => by
    subst px
    refine q _ H2 _ k2 (.dat (.bl _)) ?_
    rw [isN_of sx.d]
theorem ed_notN {d : D} (ha : Ed r ta G d) : Ed r (tNotN ta) G (.bl (!d.isN)) := fun σ H e Q q =>
  ha σ H e _ fun x H2 s k2 sx px => by
    subst px
    refine q _ H2 _ k2 (.dat (.bl _)) ?_
    rw [isN_of sx.d]
/-! tests -/
theorem eb_test {b : Bool} (h : Ed r te G (.bl b)) : Eb r (tTest te) G b := fun σ H e Q q => h σ H e _ fun x H2 s k2 sx px => by
  subst px
  cases sx.d
  exact ⟨b, rfl, q b H2 k2 rfl⟩
theorem et_test {P : Bool → Prop} (h : Ev r te G (fun s => ∃ b, s = .dat (.bl b) ∧ P b)) : Et r (tTest te) G P := fun σ H e Q q => h σ H e _ fun x H2 s k2 sx px => by
  obtain ⟨b, rfl, pb⟩ := px
  cases sx.d
  exact ⟨b, rfl, q b H2 k2 pb⟩
theorem eb_B {b : Bool} (h : Ed r te G (.bl b)) : Eb r (tB te) G b := fun σ H e Q q => h σ H e _ fun x H2 s k2 sx px => by
  subst px
  cases sx.d
  exact ⟨b, rfl, q b H2 k2 rfl⟩
theorem eb_and {a b : Bool} (h1 : Eb r tt G a) (h2 : a = true → Eb r uu G b) : Eb r (tAnd tt uu) G (a && b) := fun σ H e Q q => h1 σ H e _ fun c H2 k2 ec => by
  subst ec
  cases c with
  | true =>
    show uu σ H2 Q
    exact h2 rfl σ H2 (e.mono k2) Q fun c' H3 k3 e3 => q c' H3 (k2.trans k3) (by rw [e3]; rfl)
  | false =>
    show Q false H2
    exact q false H2 k2 rfl
theorem eb_or {a b : Bool} (h1 : Eb r tt G a) (h2 : a = false → Eb r uu G b) : Eb r (tOr tt uu) G (a || b) := fun σ H e Q q => h1 σ H e _ fun c H2 k2 ec => by
  subst ec
  cases c with
  | true =>
    show Q true H2
    exact q true H2 k2 rfl
  | false =>
    show uu σ H2 Q
    exact h2 rfl σ H2 (e.mono k2) Q fun c' H3 k3 e3 => q c' H3 (k2.trans k3) (by rw [e3]; rfl)
theorem eb_not {a : Bool} (h1 : Eb r tt G a) : Eb r (tNot tt) G (!a) := fun σ H e Q q => h1 σ H e _ fun c H2 k2 ec => q (!c) H2 k2 (by rw [ec])
theorem ed_andV {a b : Bool} (h1 : Ed r ta G (.bl a)) (h2 : a = true → Ed r tb G (.bl b)) : Ed r (tAndV ta tb) G (.bl (a && b)) := fun σ H e Q q => h1 σ H e _ fun x H2 s k2 sx px => by
  subst px
  cases sx.d
  refine ⟨a, rfl, ?_⟩
  cases a with
  | true =>
    show tb σ H2 Q
    exact h2 rfl σ H2 (e.mono k2) Q fun c' H3 s k3 e3 p3 => q c' H3 s (k2.trans k3) e3 (by rw [p3]; rfl)
  | false =>
    show Q (.bl false) H2
    exact q _ H2 _ k2 (.dat (.bl false)) rfl
theorem ed_orV {a b : Bool} (h1 : Ed r ta G (.bl a)) (h2 : a = false → Ed r tb G (.bl b)) : Ed r (tOrV ta tb) G (.bl (a || b)) := fun σ H e Q q => h1 σ H e _ fun x H2 s k2 sx px => by
  subst px
  cases sx.d
  refine ⟨a, rfl, ?_⟩
  cases a with
  | false =>
    show tb σ H2 Q
    exact h2 rfl σ H2 (e.mono k2) Q fun c' H3 s k3 e3 p3 => q c' H3 s (k2.trans k3) e3 (by rw [p3]; rfl)
  | true =>
    show Q (.bl true) H2
    exact q _ H2 _ k2 (.dat (.bl true)) rfl
theorem ed_notV {a : Bool} (h1 : Ed r ta G (.bl a)) : Ed r (tNotV ta) G (.bl (!a)) := fun σ H e Q q => h1 σ H e _ fun x H2 s k2 sx px => by
  subst px
  cases sx.d
  exact ⟨a, rfl, q _ H2 _ k2 (.dat (.bl _)) rfl⟩
theorem ev_if {b : Bool} (h : Eb r tt G b) (h1 : b = true → Ev r ta G P) (h2 : b = false → Ev r tb G P) : Ev r (tIf tt ta tb) G P := fun σ H e Q q => h σ H e _ fun c H2 k2 ec => by
  subst ec
  cases c with
  | true =>
    show ta σ H2 Q
    exact h1 rfl σ H2 (e.mono k2) Q fun c' H3 s k3 e3 p3 => q c' H3 s (k2.trans k3) e3 p3
  | false =>
    show tb σ H2 Q
    exact h2 rfl σ H2 (e.mono k2) Q fun c' H3 s k3 e3 p3 => q c' H3 s (k2.trans k3) e3 p3
/-- a list's truth, a tuple's -/
theorem eb_tru {s : Sl} {b : Bool} (h : Ev r te G (fun x => x = s)) (hb : ∀ H v, Sv r H v s → TruV K v H b) : Eb r (fun σ H Q => te σ H fun x H' => ∃ k, TruV K x H' k ∧ Q k H') G b := fun σ H e Q q =>
  h σ H e _ fun x H2 s' k2 sx px => ⟨b, hb H2 x (px ▸ sx), q b H2 k2 rfl⟩
theorem tru_row {a : Addr} {H : Hp} {v : V} (h : Sv r H v (.row a)) : ∃ b, TruV K v H b := by
  cases h with
  | row e h =>
    obtain ⟨ns, q⟩ := h
    exact ⟨_, .inl ⟨_, SqL.of q, rfl⟩⟩
theorem et_truRow {a : Addr} (h : Ev r te G (fun x => x = .row a)) : Et r (fun σ H Q => te σ H fun x H' => ∃ k, TruV K x H' k ∧ Q k H') G (fun _ => True) := fun σ H e Q q =>
  h σ H e _ fun x H2 s' k2 sx px => by
    obtain ⟨b, hb⟩ := tru_row (K := K) (px ▸ sx)
    exact ⟨b, hb, q b H2 k2 trivial⟩
theorem eb_truT {ds : List D} (h : Ed r te G (.tup ds)) : Eb r (fun σ H Q => te σ H fun x H' => ∃ k, TruV K x H' k ∧ Q k H') G (!ds.isEmpty) := eb_tru h fun H v hv => by
  cases hv.d with
  | tup ha hd =>
    refine .inr (.inl ⟨_, SqT.of ha, ?_⟩)
    have := hd.length
    cases hd <;> rfl
/-! arguments, displays -/
theorem ea_nil : Ea r tNil G (fun ss => ss = []) := fun σ H e Q q => q [] H [] (Kp.refl r H) .nil rfl
theorem ea_cons {tr : TA} {PP : List Sl → Prop} (h : Ev r ta G P) (hr : Ea r tr G PP) : Ea r (tCons ta tr) G (fun ss => ∃ s ss', ss = s :: ss' ∧ P s ∧ PP ss') := fun σ H e Q q =>
  h σ H e _ fun x H2 s k2 sx px => hr σ H2 (e.mono k2) _ fun vs H3 ss k3 sv pv => q (x :: vs) H3 (s :: ss) (k2.trans k3) (.cons (sx.mono k3) sv) ⟨s, ss, rfl, px, pv⟩
theorem ea_c {tr : TA} {s : Sl} {ss : List Sl} (h : Ev r ta G (fun x => x = s)) (hr : Ea r tr G (fun x => x = ss)) : Ea r (tCons ta tr) G (fun x => x = s :: ss) := fun σ H e Q q =>
  ea_cons h hr σ H e Q fun vs H2 ss' k sv p => q vs H2 ss' k sv (by
    obtain ⟨s', ss'', e1, e2, e3⟩ := p
    rw [e1, e2, e3])
theorem ea_cd {tr : TA} {d : D} {ds : List D} (h : Ed r ta G d) (hr : Ea r tr G (fun x => x = ds.map .dat)) : Ea r (tCons ta tr) G (fun x => x = (d :: ds).map .dat) := ea_c h hr
theorem ea_n : Ea r tNil G (fun ss => ss = ([] : List D).map .dat) := ea_nil
theorem Ea.imp {t : TA} {P1 P2 : List Sl → Prop} (h : Ea r t G P1) (i : ∀ ss, P1 ss → P2 ss) : Ea r t G P2 := fun σ H e Q q => h σ H e Q fun v H2 s k sv p => q v H2 s k sv (i s p)
theorem ed_tup {t : TA} {ds : List D} (h : Ea r t G (fun x => x = ds.map .dat)) (hl : ds.length ≤ 1000 := by exact Nat.le_of_ble_eq_true rfl) : Ed r (tTup t) G (.tup ds) := fun σ H e Q q =>
  h σ H e _ fun vs H2 ss k2 sv pv => by
    subst pv
    have hd := sv.dts
    refine ⟨Nat.le_of_lt (small1000 (by rw [hd.length]; exact hl)), fun p hp => ?_⟩
    have kn : Kp r H2 (L2.upd H2 p (.tup vs)) := Kp.new hp
    exact q _ _ _ (k2.trans kn) (.dat (.tup upd_same (kn.dts hd))) rfl
/-- a display of data that are not told -/
theorem ev_tup {t : TA} {PP : List D → Prop} (h : Ea r t G (fun x => ∃ ds : List D, x = ds.map .dat ∧ PP ds)) (hl : ∀ ds, PP ds → ds.length ≤ 1000) : Ev r (tTup t) G (fun s => ∃ ds, s = .dat (.tup ds) ∧ PP ds) := fun σ H e Q q =>
  h σ H e _ fun vs H2 ss k2 sv pv => by
    obtain ⟨ds, rfl, pd⟩ := pv
    have hd := sv.dts
    refine ⟨Nat.le_of_lt (small1000 (by rw [hd.length]; exact hl ds pd)), fun p hp => ?_⟩
    have kn : Kp r H2 (L2.upd H2 p (.tup vs)) := Kp.new hp
    exact q _ _ _ (k2.trans kn) (.dat (.tup upd_same (kn.dts hd))) ⟨ds, rfl, pd⟩
/-- a tuple with lists in it -/
theorem ev_tl {t : TA} {ss : List Sl} (h : Ea r t G (fun x => x = ss)) (hl : ss.length ≤ 1000 := by exact Nat.le_of_ble_eq_true rfl) : Ev r (tTup t) G (fun s => s = .tl ss) := fun σ H e Q q =>
  h σ H e _ fun vs H2 ss' k2 sv pv => by
    subst pv
    refine ⟨Nat.le_of_lt (small1000 (by rw [sv.length]; exact hl)), fun p hp => ?_⟩
    have kn : Kp r H2 (L2.upd H2 p (.tup vs)) := Kp.new hp
    exact q _ _ _ (k2.trans kn) (.tl upd_same (sv.mono kn)) rfl
theorem el_lst {t : TA} {ds : List D} (h : Ea r t G (fun x => x = ds.map .dat)) (hl : ds.length ≤ 1000 := by exact Nat.le_of_ble_eq_true rfl) : El r (tLst t) G (fun x => x = ds) := fun σ H e Q q =>
  h σ H e _ fun vs H2 ss k2 sv pv => by
    subst pv
    have hd := sv.dts
    refine ⟨Nat.le_of_lt (small1000 (by rw [hd.length]; exact hl)), fun p hp => ?_⟩
    have kn : Kp r H2 (L2.upd H2 p (.lst vs)) := Kp.new hp
    have np : some p ≠ r := fresh_rk (k2.rk e.rk) hp
    exact q _ _ _ (k2.fresh hp) np (k2.trans kn) ⟨vs, upd_same, kn.dts hd⟩ rfl
/-! subscripts -/
theorem atI_nat {xs : List V} {j : Nat} {v : V} (h : xs[j]? = some v) : atI xs (j : Int) = some v := by
  have hl := (List.getElem?_eq_some_iff.mp h).1
  unfold atI ixN
  rw [if_pos (by omega), if_pos (by omega)]
  simpa using h
theorem rd_ixT {ds : List D} {j : Nat} {d : D} (h : ds[j]? = some d) : RD r (rIxT K) (.dat (.tup ds)) (.dat (.int j)) (fun s => s = .dat d) := fun H x y hx hy rk Q q => by
  cases hy.d
  cases hx.d with
  | tup ha hd =>
    obtain ⟨v, h1, h2⟩ := hd.get h
    exact ⟨_, _, _, v, rfl, rfl, SqT.of ha, atI_nat h1, q v H _ (Kp.refl r H) (.dat h2) rfl⟩
theorem rd_ixTl {ss : List Sl} {j : Nat} {s : Sl} (h : ss[j]? = some s) : RD r (rIxT K) (.tl ss) (.dat (.int j)) (fun x => x = s) := fun H x y hx hy rk Q q => by
  cases hy.d
  cases hx with
  | tl ha hd =>
    obtain ⟨v, h1, h2⟩ := hd.get h
    exact ⟨_, _, _, v, rfl, rfl, SqT.of ha, atI_nat h1, q v H _ (Kp.refl r H) h2 rfl⟩
theorem rd_ixL {a : Addr} {ds : List D} {j : Nat} {d : D} (h : ds[j]? = some d) : RD r (rIxL K) (.lst a ds) (.dat (.int j)) (fun s => s = .dat d) := fun H x y hx hy rk Q q => by
  cases hy.d
  cases hx with
  | lst n hl =>
    obtain ⟨xs, ha, hd⟩ := hl
    obtain ⟨v, h1, h2⟩ := hd.get h
    exact ⟨_, _, _, v, rfl, rfl, SqL.of ha, atI_nat h1, q v H _ (Kp.refl r H) (.dat h2) rfl⟩
theorem ed_ixT {ds : List D} {j : Nat} {d : D} (ha : Ed r ta G (.tup ds)) (hb : Ed r tb G (.int j)) (h : ds[j]? = some d) : Ed r (tOp (rIxT K) ta tb) G d := ev_op' ha hb (rd_ixT h)
theorem ed_ix0 {ds : List D} {d : D} (ha : Ed r ta G (.tup (d :: ds))) : Ed r (tOp (rIxT K) ta (tC (.int 0))) G d := ed_ixT (j := 0) ha ed_int rfl
theorem ed_ix1 {ds : List D} {c d : D} (ha : Ed r ta G (.tup (c :: d :: ds))) : Ed r (tOp (rIxT K) ta (tC (.int 1))) G d := ed_ixT (j := 1) ha ed_int rfl
theorem ed_ix2 {ds : List D} {b c d : D} (ha : Ed r ta G (.tup (b :: c :: d :: ds))) : Ed r (tOp (rIxT K) ta (tC (.int 2))) G d := ed_ixT (j := 2) ha ed_int rfl
theorem ed_ixL {a : Addr} {ds : List D} {j : Nat} {d : D} (ha : Ev r ta G (fun s => s = .lst a ds)) (hb : Ed r tb G (.int j)) (h : ds[j]? = some d) : Ed r (tOp (rIxL K) ta tb) G d := ev_op' ha hb (rd_ixL h)
/-! calls -/
theorem ev_cb {R : List V → Hp → VK → Prop} {t : TA} {ss : List Sl} (h : Ea r t G (fun x => x = ss)) (hr : RC r R ss P) : Ev r (tCB R t) G P := fun σ H e Q q =>
  h σ H e _ fun vs H2 ss' k2 sv pv => hr H2 vs (pv ▸ sv) (k2.rk e.rk) Q fun v H3 u k3 su pu => q v H3 u (k2.trans k3) su pu
theorem el_cb {R : List V → Hp → VK → Prop} {t : TA} {ss : List Sl} {P : List D → Prop} (h : Ea r t G (fun x => x = ss)) (hr : RL r R ss P) : El r (tCB R t) G P := fun σ H e Q q =>
  h σ H e _ fun vs H2 ss' k2 sv pv => hr H2 vs (pv ▸ sv) (k2.rk e.rk) Q fun p H3 ds hp np k3 hl pd => q p H3 ds (k2.fresh hp) np (k2.trans k3) hl pd
/-- a def's contract: args, result -/
def Con (n : Nat) (A : Option Addr → List Sl → (Sl → Prop) → Prop) : Sp := fun vs H Q _ => ∃ r ss P, vs.length = n ∧ A r ss P ∧ SvAll r H vs ss ∧ (∀ a, r = some a → Row H a) ∧ ∀ v H2 s, Kp r H H2 → Sv r H2 v s → P s → Q v H2
theorem Con.len {n : Nat} {A : Option Addr → List Sl → (Sl → Prop) → Prop} : ∀ vs H Q E, Con n A vs H Q E → vs.length = n := fun _ _ _ _ h => by
  obtain ⟨_, _, _, h, _⟩ := h
  exact h
theorem ev_call {n : Nat} {A : Option Addr → List Sl → (Sl → Prop) → Prop} {E : XK} {t : TA} {PP : List Sl → Prop} (h : Ea r t G PP) (hA : ∀ ss, PP ss → ss.length = n ∧ A r ss P) : Ev r (tCall (Con n A) [] E t) G P := fun σ H e Q q =>
  h σ H e _ fun vs H2 ss k2 sv pv => by
    obtain ⟨hl, ha⟩ := hA ss pv
    refine ⟨r, ss, P, by rw [List.append_nil, sv.length, hl], ha, by rw [List.append_nil]; exact sv, k2.rk e.rk, fun v H3 s k3 s3 p3 => q v H3 s (k2.trans k3) s3 p3⟩
theorem ev_call' {n : Nat} {A : Option Addr → List Sl → (Sl → Prop) → Prop} {E : XK} {t : TA} {ss : List Sl} (h : Ea r t G (fun x => x = ss)) (hA : A r ss P) (hl : ss.length = n := by rfl) : Ev r (tCall (Con n A) [] E t) G P :=
  ev_call h fun ss' e => e ▸ ⟨hl, hA⟩
end
end Zb

-- part ZSt
namespace Zb
open PySem PySem.Spec PyProof.Rows L2
/-- tuples, dicts stay -/
structure Kx (H H' : Hp) : Prop where
  tup : ∀ a xs, H a = some (.tup xs) → H' a = some (.tup xs)
  dct : ∀ a xs, Rd H a (.dT xs) → Rd H' a (.dT xs)
  there : ∀ a, H' a = none → H a = none
section
variable {r : Option Addr} {H H0 H1 H2 H' : Hp}
theorem Kx.refl (H : Hp) : Kx H H := ⟨fun _ _ h => h, fun _ _ h => h, fun _ h => h⟩
theorem Kx.trans (a : Kx H H1) (b : Kx H1 H2) : Kx H H2 := ⟨fun x o h => b.tup x o (a.tup x o h), fun x o h => b.dct x o (a.dct x o h), fun x h => a.there x (b.there x h)⟩
theorem Kp.kx (k : Kp r H H') : Kx H H' := ⟨k.tup, k.dct, k.there⟩
theorem Kx.dt {v : V} {d : D} (k : Kx H H') (h : Dt H v d) : Dt H' v d := h.mono k.tup k.dct
theorem Kx.dts {v : List V} {d : List D} (k : Kx H H') (h : DtAll H v d) : DtAll H' v d := h.mono k.tup k.dct
theorem Kx.mut {a : Addr} {xs : List V} {o : HO} (h : H a = some (.lst xs)) : Kx H (L2.upd H a o) :=
  ⟨fun c ys e => by rw [upd_ne (ne_of e h (by intro z; cases z))]; exact e, fun c ys e => Rd.updNe (Rd.neL h e) e, fun c e => (upd_none e).1⟩
end
section
variable {r : Option Addr} {K : PySem.W.Frag} {G : List Sl} {σ : L2.St} {H H0 : Hp} {ta : TA} {te : TE} {tt : TT} {t u t1 t2 tb : TS} {D' : Ends} {P : Sl → Prop} {i j : Nat}
theorem q_seq (h : t { D' with nx := u D' } σ H) : tSeq t u D' σ H := h
theorem s_set {s : Sl} (e : En r H σ G) (h : Ev r te G (fun x => x = s)) (k : ∀ σ' H', En r H' σ' (G.set i s) → Kp r H H' → D'.nx σ' H') : tAsg te (gName i) D' σ H :=
  h σ H e _ fun v H2 s' k2 sv p => k _ H2 ((e.mono k2).set i (p ▸ sv)) k2
theorem s_setP (e : En r H σ G) (h : Ev r te G P) (k : ∀ s σ' H', P s → En r H' σ' (G.set i s) → Kp r H H' → D'.nx σ' H') : tAsg te (gName i) D' σ H :=
  h σ H e _ fun v H2 s' k2 sv p => k s' _ H2 p ((e.mono k2).set i sv) k2
theorem s_setL {P : List D → Prop} (e : En r H σ G) (h : El r te G P) (k : ∀ p ds σ' H', H p = none → some p ≠ r → P ds → En r H' σ' (G.set i (.lst p ds)) → Kp r H H' → D'.nx σ' H') : tAsg te (gName i) D' σ H :=
  h σ H e _ fun p H2 ds hp np k2 hl pd => k p ds _ H2 hp np pd ((e.mono k2).set i (.lst np hl)) k2
theorem s_par {s1 s2 : Sl} (e : En r H σ G) (h : Ea r ta G (fun x => x = [s1, s2])) (k : ∀ σ' H', En r H' σ' ((G.set i s1).set j s2) → Kp r H H' → D'.nx σ' H') : tPar i j ta D' σ H :=
  h σ H e _ fun vs H2 ss k2 sv p => by
    subst p
    cases sv with
    | cons a b =>
      cases b with
      | cons b c =>
        cases c
        exact ⟨_, _, rfl, k _ H2 (((e.mono k2).set i a).set j b) k2⟩
theorem s_parP {PP : Sl → Sl → Prop} (e : En r H σ G) (h : Ea r ta G (fun x => ∃ s1 s2, x = [s1, s2] ∧ PP s1 s2)) (k : ∀ s1 s2 σ' H', PP s1 s2 → En r H' σ' ((G.set i s1).set j s2) → Kp r H H' → D'.nx σ' H') : tPar i j ta D' σ H :=
  h σ H e _ fun vs H2 ss k2 sv p => by
    obtain ⟨s1, s2, rfl, pp⟩ := p
    cases sv with
    | cons a b =>
      cases b with
      | cons b c =>
        cases c
        exact ⟨_, _, rfl, k s1 s2 _ H2 pp (((e.mono k2).set i a).set j b) k2⟩
theorem s_if {P : Bool → Prop} (e : En r H σ G) (h : Et r tt G P) (k1 : P true → ∀ H', En r H' σ G → Kp r H H' → t1 D' σ H') (k2 : P false → ∀ H', En r H' σ G → Kp r H H' → t2 D' σ H') : tIfS tt t1 t2 D' σ H :=
  h σ H e _ fun b H2 k2' p => by
    cases b with
    | true =>
      show t1 D' σ H2
      exact k1 p H2 (e.mono k2') k2'
    | false =>
      show t2 D' σ H2
      exact k2 p H2 (e.mono k2') k2'
theorem s_ifB {b : Bool} (e : En r H σ G) (h : Eb r tt G b) (k1 : b = true → ∀ H', En r H' σ G → Kp r H H' → t1 D' σ H') (k2 : b = false → ∀ H', En r H' σ G → Kp r H H' → t2 D' σ H') : tIfS tt t1 t2 D' σ H :=
  s_if e h (fun z => k1 z.symm) fun z => k2 z.symm
theorem s_ifT (e : En r H σ G) (h : Eb r tt G true) (k1 : ∀ H', En r H' σ G → Kp r H H' → t1 D' σ H') : tIfS tt t1 t2 D' σ H := s_ifB e h (fun _ => k1) fun z => nomatch z
theorem s_ifF (e : En r H σ G) (h : Eb r tt G false) (k1 : ∀ H', En r H' σ G → Kp r H H' → t2 D' σ H') : tIfS tt t1 t2 D' σ H := s_ifB e h (fun z => nomatch z) fun _ => k1
theorem s_ret (e : En r H σ G) (h : Ev r te G P) (k : ∀ v H' s, Kp r H H' → Sv r H' v s → P s → D'.rt v H') : tRet te D' σ H := h σ H e _ fun v H2 s k2 sv p => k v H2 s k2 sv p
theorem s_drop (e : En r H σ G) (h : Ev r te G P) (k : ∀ H', En r H' σ G → Kp r H H' → D'.nx σ H') : tDrop te D' σ H := h σ H e _ fun v H2 s k2 sv p => k H2 (e.mono k2) k2
theorem s_next (h : D'.nx σ H) : tNext D' σ H := h
/-- xs.append(e) -/
theorem s_app {a : Addr} {ds : List D} {d : D} (e : En r H σ G) (hg : G[i]? = some (.lst a ds)) (h : Ed r te G d) (hl : ds.length < 100000) (hal : noAl a (G.set i .any)) (k0 : Kp r H0 H) (h0 : H0 a = none)
    (k : ∀ H', En r H' σ (G.set i (.lst a (ds ++ [d]))) → Kp r H0 H' → Kx H H' → D'.nx σ H') : tDrop (tBM K "list" rAppend (tVar i) (tCons te tNil)) D' σ H := by
  obtain ⟨v, h1, h2⟩ := e.get hg (by intro z; cases z)
  cases h2 with
  | lst n hls =>
    refine ⟨.ref a, h1, ?_⟩
    obtain ⟨xs, hx, hd⟩ := id hls
    refine ⟨.inl ⟨rfl, xs, SqL.of hx⟩, ?_⟩
    refine h σ H e _ fun w H2 s k2 sw ps => ?_
    subst ps
    have hx2 := k2.lst a xs n hx
    have hlen := hd.length
    refine ⟨a, xs, w, rfl, rfl, hx2, Nat.lt_of_lt_of_le (by omega) (show 100000 ≤ sizeLine by decide), ?_⟩
    exact k _ ((e.mono k2).upd hx2 n h1 hal ((k2.dts hd).append (.one sw.d))) ((k0.trans k2).mut h0) (k2.kx.trans (Kx.mut hx2))
/-- xs[i] = e -/
theorem s_setIx {a : Addr} {ds : List D} {d : D} {m : Nat} {ti : TE} (e : En r H σ G) (hg : G[i]? = some (.lst a ds)) (h : Ed r te G d) (hi : Ed r ti G (.int m)) (hm : m < ds.length) (hal : noAl a (G.set i .any)) (k0 : Kp r H0 H) (h0 : H0 a = none)
    (k : ∀ H', En r H' σ (G.set i (.lst a (ds.set m d))) → Kp r H0 H' → Kx H H' → D'.nx σ H') : tAsg te (gSub (tVar i) ti rSetL) D' σ H := by
  refine h σ H e _ fun w H2 s k2 sw ps => ?_
  subst ps
  have e2 := e.mono k2
  obtain ⟨v, h1, h2⟩ := e2.get hg (by intro z; cases z)
  cases h2 with
  | lst n hls =>
    refine ⟨.ref a, h1, ?_⟩
    refine hi σ H2 e2 _ fun x H3 s3 k3 sx px => ?_
    subst px
    cases sx.d
    have e3 := e2.mono k3
    obtain ⟨xs, hx, hd⟩ := k3.ls n hls
    have hlen := hd.length
    refine ⟨a, xs, m, m, rfl, rfl, hx, ?_, ?_⟩
    · unfold ixN
      rw [if_pos (by omega), if_pos (by omega)]
      simp
    · exact k _ (e3.upd hx n h1 hal (hd.set (k3.dt sw.d) m)) (((k0.trans k2).trans k3).mut h0) ((k2.trans k3).kx.trans (Kx.mut hx))
/-! loops -/
theorem l_rng1 {n : Nat} (e : En r H σ G) (h : Ea r ta G (fun x => x = [.dat (.int n)])) (hn : n < 2 ^ 60) (Pv : Nat → L2.St → Hp → Prop) (h0 : ∀ H', En r H' σ G → Kp r H H' → Pv 0 σ H')
    (hs : ∀ i σ' H', i < n → Pv i σ' H' → tb { D' with nx := Pv (i + 1), ct := Pv (i + 1), bk := D'.nx } (σ'.set j (some (.int (i : Nat)))) H') (hd : ∀ σ' H', Pv n σ' H' → D'.nx σ' H') : tFor (iRng1 ta) (gName j) tb D' σ H :=
  h σ H e _ fun vs H2 ss k2 sv p => by
    subst p
    cases sv with
    | cons a b =>
      cases b
      cases a.d
      refine ⟨_, rfl, by omega, by omega, ?_⟩
      refine for_range (lo := 0) (n := (n : Int).toNat) Pv (h0 H2 (e.mono k2) k2) (fun i σ' H' hi p => ?_) (fun σ' H' p => hd σ' H' p)
      have e0 : (0 : Int) + (i : Int) = (i : Int) := Int.zero_add _
      show tb _ (σ'.set j (some (.int (0 + (i : Int))))) H'
      rw [e0]
      exact hs i σ' H' (by omega) p
theorem l_tup {ds : List D} {g : TG} (e : En r H σ G) (h : Ed r te G (.tup ds)) (Pv : Hp → Nat → L2.St → Hp → Prop) (h0 : ∀ Hb, En r Hb σ G → Kp r H Hb → Pv Hb 0 σ Hb) (hk : ∀ Hb i σ' H', Pv Hb i σ' H' → Kx Hb H')
    (hs : ∀ Hb i d v σ' H', Kp r H Hb → ds[i]? = some d → Dt H' v d → Pv Hb i σ' H' → g v σ' H' fun σ2 H2 => tb { D' with nx := Pv Hb (i + 1), ct := Pv Hb (i + 1), bk := D'.nx } σ2 H2)
    (hd : ∀ Hb σ' H', Kp r H Hb → Pv Hb ds.length σ' H' → D'.nx σ' H') : tFor (iTup K te) g tb D' σ H :=
  h σ H e _ fun v Hb s k2 sv p => by
    subst p
    cases sv.d with
    | tup ha hds =>
      rename_i a xs
      have hlen := hds.length
      refine ⟨a, rfl, ⟨xs, SqT.of ha⟩, for_tup (Pv Hb) (h0 Hb (e.mono k2) k2) (fun i σ' H' _ p => SqT.of ((hk _ _ _ _ p).tup a xs ha)) (fun i x σ' H' hx p => ?_) (fun σ' H' p => hd Hb σ' H' k2 (hlen ▸ p))⟩
      obtain ⟨d, hd1, hd2⟩ := hds.getV hx
      exact hs Hb i d x σ' H' k2 hd1 ((hk _ _ _ _ p).dt hd2) p
/-- a list in a slot that the body leaves as it is -/
theorem l_lst {a : Addr} {ds : List D} {g : TG} (e : En r H σ G) (h : Ev r te G (fun x => x = .lst a ds)) (Pv : Hp → Nat → L2.St → Hp → Prop) (h0 : ∀ Hb, En r Hb σ G → Kp r H Hb → Pv Hb 0 σ Hb) (hk : ∀ Hb i σ' H', Pv Hb i σ' H' → Kx Hb H' ∧ ∀ xs, Hb a = some (.lst xs) → H' a = some (.lst xs))
    (hs : ∀ Hb i d v σ' H', Kp r H Hb → ds[i]? = some d → Dt H' v d → Pv Hb i σ' H' → g v σ' H' fun σ2 H2 => tb { D' with nx := Pv Hb (i + 1), ct := Pv Hb (i + 1), bk := D'.nx } σ2 H2)
    (hd : ∀ Hb σ' H', Kp r H Hb → Pv Hb ds.length σ' H' → D'.nx σ' H') : tFor (iList K te) g tb D' σ H :=
  h σ H e _ fun v Hb s k2 sv p => by
    subst p
    cases sv with
    | lst n hls =>
      obtain ⟨xs, ha, hds⟩ := hls
      have hlen := hds.length
      refine ⟨a, rfl, ⟨xs, SqL.of ha⟩, for_list (Pv Hb) (h0 Hb (e.mono k2) k2) (fun i σ' H' _ p => SqL.of ((hk _ _ _ _ p).2 xs ha)) (fun i x σ' H' hx p => ?_) (fun σ' H' p => hd Hb σ' H' k2 (hlen ▸ p))⟩
      obtain ⟨d, hd1, hd2⟩ := hds.getV hx
      exact hs Hb i d x σ' H' k2 hd1 ((hk _ _ _ _ p).1.dt hd2) p
/-- a pair is taken apart -/
theorem g_two {d1 d2 : D} {v : V} {Q : L2.St → Hp → Prop} (e : En r H σ G) (h : Dt H v (.tup [d1, d2])) (k : ∀ σ', En r H σ' ((G.set i (.dat d1)).set j (.dat d2)) → Q σ' H) : gTup K 2 (gCons (gName i) (gCons (gName j) gNil)) v σ H Q := by
  cases h with
  | tup ha hd =>
    rename_i a xs
    cases hd with
    | cons h1 r1 =>
      cases r1 with
      | cons h2 r2 =>
        cases r2
        exact ⟨a, _, rfl, SqT.of ha, rfl, _, _, rfl, _, _, rfl, rfl, k _ ((e.set i (.dat h1)).set j (.dat h2))⟩
theorem g_three {d1 d2 d3 : D} {l : Nat} {v : V} {Q : L2.St → Hp → Prop} (e : En r H σ G) (h : Dt H v (.tup [d1, d2, d3])) (k : ∀ σ', En r H σ' (((G.set i (.dat d1)).set j (.dat d2)).set l (.dat d3)) → Q σ' H) : gTup K 3 (gCons (gName i) (gCons (gName j) (gCons (gName l) gNil))) v σ H Q := by
  cases h with
  | tup ha hd =>
    rename_i a xs
    cases hd with
    | cons h1 r1 =>
      cases r1 with
      | cons h2 r2 =>
        cases r2 with
        | cons h3 r3 =>
          cases r3
          exact ⟨a, _, rfl, SqT.of ha, rfl, _, _, rfl, _, _, rfl, _, _, rfl, rfl, k _ (((e.set i (.dat h1)).set j (.dat h2)).set l (.dat h3))⟩
theorem g_twoS {s1 s2 : Sl} {v : V} {Q : L2.St → Hp → Prop} (e : En r H σ G) (h : Sv r H v (.tl [s1, s2])) (k : ∀ σ', En r H σ' ((G.set i s1).set j s2) → Q σ' H) : gTup K 2 (gCons (gName i) (gCons (gName j) gNil)) v σ H Q := by
  cases h with
  | tl ha hd =>
    rename_i a xs
    cases hd with
    | cons h1 r1 =>
      cases r1 with
      | cons h2 r2 =>
        cases r2
        exact ⟨a, _, rfl, SqT.of ha, rfl, _, _, rfl, _, _, rfl, rfl, k _ ((e.set i h1).set j h2)⟩
/-- a, b = e -/
theorem s_two {d1 d2 : D} (e : En r H σ G) (h : Ed r te G (.tup [d1, d2])) (k : ∀ σ' H', En r H' σ' ((G.set i (.dat d1)).set j (.dat d2)) → Kp r H H' → D'.nx σ' H') : tAsg te (gTup K 2 (gCons (gName i) (gCons (gName j) gNil))) D' σ H :=
  h σ H e _ fun v H2 s k2 sv p => by
    subst p
    exact g_two (e.mono k2) sv.d fun σ' e' => k σ' H2 e' k2
theorem s_three {d1 d2 d3 : D} {l : Nat} (e : En r H σ G) (h : Ed r te G (.tup [d1, d2, d3])) (k : ∀ σ' H', En r H' σ' (((G.set i (.dat d1)).set j (.dat d2)).set l (.dat d3)) → Kp r H H' → D'.nx σ' H') : tAsg te (gTup K 3 (gCons (gName i) (gCons (gName j) (gCons (gName l) gNil)))) D' σ H :=
  h σ H e _ fun v H2 s k2 sv p => by
    subst p
    exact g_three (e.mono k2) sv.d fun σ' e' => k σ' H2 e' k2
theorem s_twoS {P2 : Sl → Sl → Prop} (e : En r H σ G) (h : Ev r te G (fun s => ∃ s1 s2, s = .tl [s1, s2] ∧ P2 s1 s2)) (k : ∀ s1 s2 σ' H', P2 s1 s2 → En r H' σ' ((G.set i s1).set j s2) → Kp r H H' → D'.nx σ' H') : tAsg te (gTup K 2 (gCons (gName i) (gCons (gName j) gNil))) D' σ H :=
  h σ H e _ fun v H2 s k2 sv p => by
    obtain ⟨s1, s2, rfl, pp⟩ := p
    exact g_twoS (e.mono k2) sv fun σ' e' => k s1 s2 σ' H2 pp e' k2
/-! comprehensions -/
theorem wipe_one (σ : L2.St) (j : Nat) : wipe σ [j] = σ.set j none := rfl
theorem En.comp {v : V} {s : Sl} (e : En r H σ G) (h : Sv r H v s) : En r H ((wipe σ [j]).set j (some v)) (G.set j s) := by
  have e1 : En r H ((σ.set j none).set j (some v)) ((G.set j .any).set j s) := (e.wipe1 j).set j h
  have e2 : (G.set j .any).set j s = G.set j s := List.set_set ..
  rw [e2] at e1
  exact e1
theorem wipe_back (σ : L2.St) (j : Nat) (v : V) : wipe ((wipe σ [j]).set j (some v)) [j] = wipe σ [j] := by
  rw [wipe_one, wipe_one, List.set_set, List.set_set]
/-- the items of a comprehension -/
def compL {α : Type} (f : α → Bool) (v : α → D) (l : List α) : List D := (l.filter f).map v
theorem compL_snoc {α : Type} {f : α → Bool} {v : α → D} {l : List α} {x : α} : compL f v (l ++ [x]) = compL f v l ++ (if f x then [v x] else []) := by
  unfold compL
  rw [List.filter_append, List.map_append]
  by_cases h : f x = true
  · rw [if_pos h, List.filter_cons_of_pos h]; rfl
  · rw [if_neg h, List.filter_cons_of_neg h]; rfl
theorem compL_len {α : Type} (f : α → Bool) (v : α → D) (l : List α) : (compL f v l).length ≤ l.length := by
  unfold compL
  rw [List.length_map]
  exact List.length_filter_le _ _
/-- the word of a comprehension's turns -/
structure Cw (r : Option Addr) (σ : L2.St) (G : List Sl) (Hb : Hp) (A : Addr) (ds : List D) (H' : Hp) : Prop where
  e : En r H' σ G
  k : Kp r Hb H'
  l : Ls H' A ds
theorem Cw.start {Hb : Hp} {A : Addr} (e : En r Hb σ G) (hA : Hb A = none) : Cw r σ G Hb A [] (L2.upd Hb A (.lst [])) :=
  ⟨e.mono (Kp.new hA), Kp.new hA, ⟨[], upd_same, .nil⟩⟩
theorem Cw.more {Hb H' H4 : Hp} {A : Addr} {ds : List D} {d : D} {y : V} (hA : Hb A = none) (eb : En r Hb σ G) (c : Cw r σ G Hb A ds H') (k : Kp r H' H4) (hy : Dt H4 y d) (hl : ds.length < 100000) :
    ∃ acc, H4 A = some (.lst acc) ∧ acc.length < sizeLine ∧ Cw r σ G Hb A (ds ++ [d]) (L2.upd H4 A (.lst (acc ++ [y]))) := by
  have nA : some A ≠ r := fresh_rk eb.rk hA
  obtain ⟨acc, h1, h2⟩ := k.ls nA c.l
  have hlen := h2.length
  have km : Kp r Hb (L2.upd H4 A (.lst (acc ++ [y]))) := (c.k.trans k).mut hA
  exact ⟨acc, h1, Nat.lt_of_lt_of_le (by omega) (show 100000 ≤ sizeLine by decide), eb.mono km, km, ⟨_, upd_same, (Kx.mut h1).dts (h2.append (.one hy))⟩⟩
theorem tYes_ite {T F : Hp → Prop} (h : T H) : tYes σ H (fun b H3 => if b = true then T H3 else F H3) := by
  show (if true = true then T H else F H)
  rw [if_pos rfl]
  exact h
/-- over range(lo, hi): f which, v what; the reading behind a test -/
theorem el_rng2 {lo n : Nat} {f : Nat → Bool} {v : Nat → D} (h : Ea r ta G (fun x => x = [.dat (.int lo), .dat (.int (lo + n : Nat))])) (hn : lo + n < 100000)
    (ht : ∀ i, i < n → Eb r tt (G.set j (.dat (.int (lo + i : Nat)))) (f (lo + i))) (hv : ∀ i, i < n → f (lo + i) = true → Ed r te (G.set j (.dat (.int (lo + i : Nat)))) (v (lo + i))) :
    El r (tLc (iRng2 ta) (gName j) tt te [j]) G (fun ds => ds = compL f v (List.range' lo n)) := fun σ H e Q q => by
  refine h σ H e _ fun vs Hb ss k2 sv p => ?_
  subst p
  cases sv with
  | cons a b =>
    cases b with
    | cons b c =>
      cases c
      cases a.d
      cases b.d
      have e2 := e.mono k2
      refine ⟨_, _, rfl, ⟨by omega, by omega, by omega, by omega⟩, fun A hA => ?_⟩
      have en : ((lo + n : Nat) : Int) - (lo : Int) = (n : Int) := by omega
      rw [en]
      have nA : some A ≠ r := fresh_rk e2.rk hA
      refine lc_range (lo := (lo : Int)) (n := n) (fun i H' => Cw r σ G Hb A (compL f v (List.range' lo i)) H') (Cw.start e2 hA) (fun i H' hi c => ?_) (fun H' c => ?_)
      · have e3 : En r H' ((wipe σ [j]).set j (some (V.int ((lo : Int) + (i : Int))))) (G.set j (.dat (.int (lo + i : Nat)))) := c.e.comp (.dat (by
          have : ((lo + i : Nat) : Int) = (lo : Int) + (i : Int) := by omega
          rw [this]
          exact .int _))
        refine ⟨wipe_back σ j _, ht i hi _ H' e3 _ fun b H3 k3 eb => ?_⟩
        have er : List.range' lo (i + 1) = List.range' lo i ++ [lo + i] := by
          have := List.range'_concat (s := lo) (n := i) (step := 1)
          simpa using this
        have hlen : (compL f v (List.range' lo i)).length < 100000 := by
          have := compL_len f v (List.range' lo i)
          rw [List.length_range'] at this
          omega
        subst eb
        cases hb : f (lo + i) with
        | true =>
          rw [if_pos rfl]
          refine hv i hi hb _ H3 (e3.mono k3) _ fun y H4 s k4 sy ps => ?_
          subst ps
          have := Cw.more hA e2 c (k3.trans k4) sy.d hlen
          rw [er, compL_snoc, if_pos hb]
          exact this
        | false =>
          rw [if_neg (by decide)]
          rw [er, compL_snoc, if_neg (by rw [hb]; decide), List.append_nil]
          exact ⟨c.e.mono k3, c.k.trans k3, k3.ls nA c.l⟩
      · exact q A H' _ (k2.fresh hA) nA (k2.trans c.k) c.l rfl
theorem el_rng1 {n : Nat} {f : Nat → Bool} {v : Nat → D} (h : Ea r ta G (fun x => x = [.dat (.int n)])) (hn : n < 100000)
    (ht : ∀ i : Nat, i < n → Eb r tt (G.set j (.dat (.int i))) (f i)) (hv : ∀ i : Nat, i < n → f i = true → Ed r te (G.set j (.dat (.int i))) (v i)) :
    El r (tLc (iRng1 ta) (gName j) tt te [j]) G (fun ds => ds = compL f v (List.range n)) := fun σ H e Q q => by
  refine h σ H e _ fun vs Hb ss k2 sv p => ?_
  subst p
  cases sv with
  | cons a b =>
    cases b
    cases a.d
    have e2 := e.mono k2
    refine ⟨_, rfl, by omega, by omega, fun A hA => ?_⟩
    have en : (n : Int).toNat = n := by omega
    rw [en]
    have nA : some A ≠ r := fresh_rk e2.rk hA
    refine lc_range (lo := 0) (n := n) (fun i H' => Cw r σ G Hb A (compL f v (List.range i)) H') (Cw.start e2 hA) (fun i H' hi c => ?_) (fun H' c => ?_)
    · have e3 : En r H' ((wipe σ [j]).set j (some (V.int ((0 : Int) + (i : Int))))) (G.set j (.dat (.int (i : Nat)))) := c.e.comp (.dat (by
        rw [Int.zero_add]
        exact .int _))
      refine ⟨wipe_back σ j _, ht i hi _ H' e3 _ fun b H3 k3 eb => ?_⟩
      have er : List.range (i + 1) = List.range i ++ [i] := List.range_succ
      have hlen : (compL f v (List.range i)).length < 100000 := by
        have := compL_len f v (List.range i)
        rw [List.length_range] at this
        omega
      subst eb
      cases hb : f i with
      | true =>
        rw [if_pos rfl]
        refine hv i hi hb _ H3 (e3.mono k3) _ fun y H4 s k4 sy ps => ?_
        subst ps
        have := Cw.more hA e2 c (k3.trans k4) sy.d hlen
        rw [er, compL_snoc, if_pos hb]
        exact this
      | false =>
        rw [if_neg (by decide)]
        rw [er, compL_snoc, if_neg (by rw [hb]; decide), List.append_nil]
        exact ⟨c.e.mono k3, c.k.trans k3, k3.ls nA c.l⟩
    · exact q A H' _ (k2.fresh hA) nA (k2.trans c.k) c.l rfl
/-- over range(n), the items not told -/
theorem el_rng1P {n : Nat} {PD : D → Prop} (h : Ea r ta G (fun x => x = [.dat (.int n)])) (hn : n < 100000) (hv : ∀ i : Nat, i < n → Ev r te (G.set j (.dat (.int i))) (fun s => ∃ d, s = .dat d ∧ PD d)) :
    El r (tLc (iRng1 ta) (gName j) tYes te [j]) G (fun ds => ds.length = n ∧ ∀ d ∈ ds, PD d) := fun σ H e Q q => by
  refine h σ H e _ fun vs Hb ss k2 sv p => ?_
  subst p
  cases sv with
  | cons a b =>
    cases b
    cases a.d
    have e2 := e.mono k2
    refine ⟨_, rfl, by omega, by omega, fun A hA => ?_⟩
    have en : (n : Int).toNat = n := by omega
    rw [en]
    have nA : some A ≠ r := fresh_rk e2.rk hA
    refine lc_range (lo := 0) (n := n) (fun i H' => ∃ ds : List D, (ds.length = i ∧ ∀ d ∈ ds, PD d) ∧ Cw r σ G Hb A ds H') ⟨[], ⟨rfl, fun d hd => nomatch hd⟩, Cw.start e2 hA⟩ (fun i H' hi c => ?_) (fun H' c => ?_)
    · obtain ⟨ds, ⟨hl, hp⟩, c⟩ := c
      have e3 : En r H' ((wipe σ [j]).set j (some (V.int ((0 : Int) + (i : Int))))) (G.set j (.dat (.int (i : Nat)))) := c.e.comp (.dat (by
        rw [Int.zero_add]
        exact .int _))
      refine ⟨wipe_back σ j _, ?_⟩
      refine tYes_ite ?_
      refine hv i hi _ H' e3 _ fun y H4 s k4 sy ps => ?_
      obtain ⟨d, rfl, pd⟩ := ps
      obtain ⟨acc, h1, h2, h3⟩ := Cw.more hA e2 c k4 sy.d (by omega)
      refine ⟨acc, h1, h2, ds ++ [d], ⟨by rw [List.length_append, hl]; rfl, fun z hz => ?_⟩, h3⟩
      rcases List.mem_append.mp hz with hz | hz
      · exact hp z hz
      · rw [List.mem_singleton.mp hz]
        exact pd
    · obtain ⟨ds, hp, c⟩ := c
      exact q A H' _ (k2.fresh hA) nA (k2.trans c.k) c.l hp
/-- over a tuple -/
theorem el_tup {ds : List D} {v : D → D} (h : Ed r te G (.tup ds)) {tv : TE} (hn : ds.length < 100000) (hv : ∀ (i : Nat) (d : D), ds[i]? = some d → Ed r tv (G.set j (.dat d)) (v d)) :
    El r (tLc (iTup K te) (gName j) tYes tv [j]) G (fun es => es = ds.map v) := fun σ H e Q q => by
  refine h σ H e _ fun x Hb s k2 sv p => ?_
  subst p
  cases sv.d with
  | tup ha hds =>
    rename_i a xs
    have hlen := hds.length
    have e2 := e.mono k2
    refine ⟨a, rfl, ⟨xs, SqT.of ha⟩, fun A hA => ?_⟩
    have nA : some A ≠ r := fresh_rk e2.rk hA
    refine lc_tup (K := K) (a := a) (xs := xs) (fun i H' => Cw r σ G Hb A ((ds.take i).map v) H') (Cw.start e2 hA) (fun i H' _ c => SqT.of (c.k.tup a xs ha)) (fun i x H' hx c => ?_) (fun H' c => ?_)
    · obtain ⟨d, hd1, hd2⟩ := hds.getV hx
      have e3 : En r H' ((wipe σ [j]).set j (some x)) (G.set j (.dat d)) := c.e.comp (.dat (c.k.dt hd2))
      refine ⟨wipe_back σ j _, ?_⟩
      refine tYes_ite ?_
      refine hv i d hd1 _ H' e3 _ fun y H4 s k4 sy ps => ?_
      subst ps
      have er : ds.take (i + 1) = ds.take i ++ [d] := by rw [List.take_add_one, hd1]; rfl
      have := Cw.more hA e2 c k4 sy.d (by rw [List.length_map, List.length_take]; omega)
      rw [er, List.map_append]
      exact this
    · rw [hlen, List.take_length] at c
      exact q A H' _ (k2.fresh hA) nA (k2.trans c.k) c.l rfl
/-- over a list -/
theorem el_lstC {a : Addr} {ds : List D} {v : D → D} (h : Ev r te G (fun x => x = .lst a ds)) {tv : TE} (hn : ds.length < 100000) (hv : ∀ (i : Nat) (d : D), ds[i]? = some d → Ed r tv (G.set j (.dat d)) (v d)) :
    El r (tLc (iList K te) (gName j) tYes tv [j]) G (fun es => es = ds.map v) := fun σ H e Q q => by
  refine h σ H e _ fun x Hb s k2 sv p => ?_
  subst p
  cases sv with
  | lst n hls =>
    obtain ⟨xs, ha, hds⟩ := hls
    have hlen := hds.length
    have e2 := e.mono k2
    refine ⟨a, rfl, ⟨xs, SqL.of ha⟩, fun A hA => ?_⟩
    have nA : some A ≠ r := fresh_rk e2.rk hA
    refine lc_list (K := K) (a := a) (xs := xs) (fun i H' => Cw r σ G Hb A ((ds.take i).map v) H') (Cw.start e2 hA) (fun i H' _ c => SqL.of (c.k.lst a xs n ha)) (fun i x H' hx c => ?_) (fun H' c => ?_)
    · obtain ⟨d, hd1, hd2⟩ := hds.getV hx
      have e3 : En r H' ((wipe σ [j]).set j (some x)) (G.set j (.dat d)) := c.e.comp (.dat (c.k.dt hd2))
      refine ⟨wipe_back σ j _, ?_⟩
      refine tYes_ite ?_
      refine hv i d hd1 _ H' e3 _ fun y H4 s k4 sy ps => ?_
      subst ps
      have er : ds.take (i + 1) = ds.take i ++ [d] := by rw [List.take_add_one, hd1]; rfl
      have := Cw.more hA e2 c k4 sy.d (by rw [List.length_map, List.length_take]; omega)
      rw [er, List.map_append]
      exact this
    · rw [hlen, List.take_length] at c
      exact q A H' _ (k2.fresh hA) nA (k2.trans c.k) c.l rfl
end
end Zb

-- part ZRules
/-! Rules that the layer lacks: set(tuple of ints), enumerate(tuple), {tuple: value}, len of a dict that may be locked, d.pop(k) of tuple keys, x in a tuple of data, a lock that may be left out. -/
namespace Zr
open PySem PySem.Spec PyProof.Rows L2
section
variable {X : Cx}
/-- set(t), t a tuple of ints -/
def rSetT (w : World) (K : PySem.W.Frag) : List V → Hp → VK → Prop := fun vs H Q => ∃ (p : Addr) (ns : List Int), vs = [.ref p] ∧ SqT K H p (ns.map V.int) ∧ ns.length ≤ 1000 ∧
  ∀ (q : Addr) (c : Nat), H q = none → c ≤ ns.length → Q (.ref q) (upd H q (SetO w q (fun j => decide (j ∈ ns)) c))
theorem cr_setT (hc : X.calm = true) : CallR X (.type "set") (rSetT X.w X.K) := by
  intro pins s σ H vs us Q I r h
  obtain ⟨p, ns, rfl, hq, hl, q⟩ := h
  obtain ⟨u, rfl, rx⟩ := vals1 r
  obtain rfl : u = Value.ref p := rx
  obtain ⟨its, rv, pt, hz⟩ := I.tuple hq
  have hi : IntsAre its.toArray.toList ns := ints_of_vals rv
  refine call_set_tupI ns (I.ok.hd hc) (show s.heap.IsTuple p its.toArray from pt) hi (by unfold scanBound; omega) fun h' tk c R1 hcn k => ?_
  exact ⟨.ref s.heap.objs.size, upd H s.heap.objs.size (SetO X.w s.heap.objs.size (fun j => decide (j ∈ ns)) c), I.laid (t' := tk) k (Nat.le_refl _) (setO_new R1), rfl, q _ c (I.hok.fresh (Nat.le_refl _)) hcn⟩
/-- x in t, t a tuple of data -/
def rInT (K : PySem.W.Frag) : R2 := fun x y H Q => ∃ d ds, Dp K H x d ∧ Dp K H y (.tuple ds) ∧ SeqAt.shaped d = true ∧ SeqAt.shaped (.tuple ds) = true ∧ Q (.bl (ds.any fun z => PyData.eqv z d)) H
theorem op_inT (hu : X.A.units + 65 < cLine) : OpR X (compareOp .In) (rInT X.K) := by
  intro pins s σ H x y v u Q I rx ry h
  obtain ⟨d, ds, hd, he, sd, se, q⟩ := h
  obtain ⟨as, r1⟩ := Dp.reads I d x v hd rx
  obtain ⟨bs, r2⟩ := Dp.reads I (.tuple ds) y u he ry
  exact SeqAt.in_tuple_reads r2 r1 (SeqAt.canLay_of_shaped se) (SeqAt.canLay_of_shaped sd) (room_in_shaped sd hu) ⟨.bl _, H, I, rfl, q⟩
/-- len of a dict with tuple keys, locked or not -/
def rLenD : List V → Hp → VK → Prop := fun xs H Q => ∃ (p : Addr) (kvs : List (List Key × V)), xs = [.ref p] ∧ Rd H p (.dT kvs) ∧ Q (.int ((kvs.length : Nat) : Int)) H
theorem call_lenDT : CallR X (.builtin "len") rLenD := by
  intro pins s σ H xs us Q I r h
  obtain ⟨p, kvs, rfl, hp, q⟩ := h
  obtain ⟨u, rfl, rx⟩ := vals1 r
  obtain rfl : u = .ref p := rx
  obtain ⟨z, hd, ys, rel, dd⟩ := dt_rd I.hok hp
  have hl : kvs.length = ys.length := Paired.length rel
  refine call_len_dictH hd dd (by rw [← hl]; rw [sizeLine_eq] at z; omega) ?_
  rw [← hl]
  exact ⟨.int ((kvs.length : Nat) : Int), H, I.tok _, ⟨_, rfl⟩, q⟩
/-- d.pop(k), it is there -/
def rPop1 : V → List V → Hp → VK → Prop := fun x xs H Q => ∃ (a : Addr) (kvs : List (List L2.Key × V)) (k : List L2.Key) (b : Addr) (v : V), x = .ref a ∧ xs = [.ref b] ∧ H a = some (.dT kvs) ∧ H b = some (.tup (k.map kV)) ∧
  valV kvs k = some v ∧ Q v (upd H a (.dT (dropK kvs k)))
theorem mt_pop1 (hu : X.A.units + 1 < cLine) : MtR X "dict.pop" rPop1 := by
  intro pins s σ H x xs v us Q I rx rxs h
  obtain ⟨a, kvs, k, b, y, rfl, rfl, ha, hb, hy, q1⟩ := h
  cases rx
  obtain ⟨u1, rfl, r1⟩ := vals1 rxs
  cases r1
  obtain ⟨z, hd, xs', rel, dd⟩ := dt_of I.hok ha
  have hz : xs'.length ≤ sizeLine := by rw [← Paired.length rel]; exact z
  have r := rel.val k
  rw [hy] at r
  obtain ⟨p, hp⟩ : ∃ p, atKey xs' k = some p := by
    cases e : atKey xs' k with
    | none =>
      rw [e] at r
      exact (show False from r).elim
    | some p => exact ⟨p, rfl⟩
  rw [hp] at r
  have rv : RelV y p.2 := r
  refine call_pop_heap (hsz := hz) (more := []) (.inl rfl) (PySem.F.args_dict_pop_2 _ _) (tupleKind_room_in1 hu) (key_of I.hok hb) hd dd hp fun h' dd' hs => ?_
  obtain ⟨o, es, ep, hq, h2, h3, h4, _, h5⟩ := dd'
  have I2 : Inv X pins σ (upd H a (.dT (dropK kvs k))) { s with heap := h', toks := s.toks + (tupleKind (mixKind X.prog X.w)).draws k } :=
    d_write I (by rw [ha]; exact True.intro) hs ⟨o, hq⟩ ⟨Nat.le_trans (dropK_le kvs k) z, hd, _, (L2.DX.KT_drop k rel).keeps (fun c ys ec => (by rw [upd_ne (ne_of ec ha (fun z => nomatch z))]; exact ec)), o, es, ep, hq, h2, h3, h4, h5⟩
  exact ⟨y, _, I2, rv, q1⟩
end
/-- the statement runs while a thing is locked, or as it is -/
theorem ps_lockO {X : Cx} {st : Stmt} {t : TS} (h : PS X st t) : PS X st (fun D σ H => tLock t D σ H ∨ t D σ H) := by
  refine ⟨fun pins s σ H D I hw => ?_⟩
  rcases hw with hw | hw
  · exact (ps_lock h).run pins s σ H D I hw
  · exact h.run pins s σ H D I hw
/-! ### {k: v}, k a tuple -/
section
variable {X : Cx} {k v : Expr} {tk tv : TE} {pos : Pos}
def tDisp1 (tk tv : TE) : TE := fun σ H Q => ∀ p, H p = none → tk σ (upd H p (.dT [])) fun x H1 => tv σ H1 fun y H2 => ∃ (a : Addr) (ks : List Key), x = .ref a ∧ H2 a = some (.tup (ks.map kV)) ∧ H2 p = some (.dT []) ∧ Q (.ref p) (upd H2 p (.dT [(ks, y)]))
theorem pe_disp1 (hu : X.A.units + 1 < cLine) (hk : PE X k tk) (hv : PE X v tv) : PE X (.Dict [some k] [v] pos) (tDisp1 tk tv) := by
  refine ⟨fun pins s σ H Q I h => ?_⟩
  have hn := I.hok.fresh (Nat.le_refl s.heap.objs.size)
  have I1 := I.laid (a := s.heap.objs.size) (o := .dT []) (h' := s.heap.push { cls := .type "dict", data := .dict #[] }) (t' := s.toks) (fun _ _ q => Heap.get?_push_of_some _ q) (Nat.le_refl _) (dt_empty s.heap I.big)
  rw [arm_eval_Dict, zip_pairTrees [some k] [v] X.env pos rfl rfl, dictDisplay_pairs (pairTrees [some k] [v] X.env pos) (by intro z; cases z) (by show 1 < 17; decide)]
  refine wpAny_bind (wpAny_standAt (wpAny_bind (wpAny_subDictH (knd := tupleKind (mixKind X.prog X.w)) (Q := fun d s' => wpAny (model X.prog X.w) X.A (pure (Value.ref d)) (EP X pins σ Q) X.xe s') (show X.A.units < cLine by omega) (by show 1 ≤ 15; decide) ?_)))
  refine pairTrees_cons_walk (thn (hk.run pins _ σ _ _ I1 (h _ hn)) fun u s1 ⟨x, H1, I2, rx, q1⟩ => thn (hv.run pins s1 σ H1 _ I2 q1) fun w2 s2 ⟨y, H2, I3, ry, a, ks, ex, ha, hp, q2⟩ => pairTrees_nil_walk ?_)
  subst ex
  obtain rfl : u = Value.ref a := rx
  obtain ⟨z, hd, xs, rel, dd⟩ := dt_of I3.hok hp
  cases rel
  refine ⟨[(ks, a, w2)], ⟨rfl, rfl, key_of I3.hok ha, trivial⟩, dd, fun h' tk' dd' hs => wpAny_pure ?_⟩
  obtain ⟨q, es, ep, hq, h2, h3, h4, _, h5⟩ := dd'
  have I4 : Inv X pins σ (upd H2 s.heap.objs.size (.dT [(ks, y)])) { s2 with heap := h', toks := tk' } := by
    refine d_write I3 (by rw [hp]; exact True.intro) hs ⟨q, hq⟩ ⟨by show 1 ≤ sizeLine; decide, hd, [(ks, a, w2)], .cons ⟨rfl, ?_, ry⟩ .nil, q, es, ep, hq, h2, h3, h4, h5⟩
    rw [upd_ne (ne_of ha hp (fun z => nomatch z))]
    exact ha
  exact ⟨.ref s.heap.objs.size, _, I4, rfl, q2⟩
end
/-! ### enumerate(tuple) -/
set_option maxHeartbeats 1000000 in
theorem meets_enum1 {v : Value} {o : Obj} {H : Heap → Prop} (B : Begins v o H) :
    Meets (Builtin.«enumerate.__new__» ⟨[.type "enumerate", v], []⟩) (fun _ R s => H s.heap ∧
      R (.ok (.ret (.ref (s.heap.push o).objs.size))) { s with heap := (s.heap.push o).push { cls := .type "enumerate", data := .fields #[.none, .bool false, .ref s.heap.objs.size, rawInt 0, .none, .none] } }) :=
  .of_wp fun prog w A R s h => by
    obtain ⟨hp, g, d, tk, os⟩ := s; obtain ⟨h1, h⟩ := h
    have hsub := sub_enumerate
    have q1 : ∀ {A' : Around} {E : Value → Shared → Prop} {Q : Value → Shared → Prop}, Q (.ref hp.objs.size) ⟨hp.push o, g, d, tk, os⟩ → wpAny (model prog w) A' (pyIter v) Q E ⟨hp, g, d, tk, os⟩ :=
      fun q => B.iter prog w _ _ ⟨hp, g, d, tk, os⟩ _ h1 q
    wp_walk using q1
    refine wpAny_stack_any fun st => wpAny_pure ?_
    split
    · rename_i c _ _ _ _ _
      cases (c == Value.type "enumerate")
      · wp_walk using q1
        exact ⟨_, rfl, h⟩
      · wp_walk using q1
        exact ⟨_, rfl, h⟩
    · wp_walk using q1
      exact ⟨_, rfl, h⟩
section
variable {prog : Program} {w : World} {A : Around} {E : Value → Shared → Prop} {s : Shared}
theorem enum_begins1 {v : Value} {o : Obj} {H : Heap → Prop} {Q : Value → Shared → Prop} (B : Begins v o H) (h1 : H s.heap)
    (h : ∀ h', IsEnum h' (s.heap.objs.size + 1) s.heap.objs.size 0 .none → h'.get? s.heap.objs.size = some o → h'.objs.size = s.heap.objs.size + 2 →
      (∀ b o, s.heap.get? b = some o → h'.get? b = some o) → Q (.ref (s.heap.objs.size + 1)) { s with heap := h' }) :
    wpAny (model prog w) A (call (.type "enumerate") [v]) Q E s := by
  refine callType_new F.called_enumerate (by decide) (F.typeCall_enumerate_1 _) (F.newCall_enumerate_1 _) (fun obj => F.args_object_init_2 obj _) F.entry_enumerate_new
    (meets_enum1 B) ⟨h1, ?_⟩
  have hz : (s.heap.push o).objs.size = s.heap.objs.size + 1 := Heap.size_push ..
  show _ ∧ _
  rw [hz]
  have he : IsEnum ((s.heap.push o).push { cls := .type "enumerate", data := .fields #[.none, .bool false, .ref s.heap.objs.size, rawInt 0, .none, .none] }) (s.heap.objs.size + 1) s.heap.objs.size 0 .none := by
    have := Heap.get?_push_size (s.heap.push o) (o := { cls := .type "enumerate", data := .fields #[.none, .bool false, .ref s.heap.objs.size, rawInt 0, .none, .none] }) rfl
    rw [hz] at this; exact this
  refine ⟨⟨_, he, rfl⟩, h _ he (Heap.get?_push_of_some _ (Heap.get?_push_size _ B.free)) (by rw [Heap.size_push, hz]) fun b o x => Heap.get?_push_of_some _ (Heap.get?_push_of_some _ x)⟩
end
/-- the tuple at a, each item in a new pair -/
def IteT (K : PySem.W.Frag) (a : Addr) : It :=
  ⟨fun i H => ∃ (xs : List V) (x : V), SqT K H a xs ∧ xs[i]? = some x, fun i H v H' => ∃ T x, v = .ref T ∧ H T = none ∧ H' = upd H T (.tup [.int (i : Nat), x]) ∧ ∀ xs, SqT K H a xs → xs[i]? = some x, fun i H => ∃ xs : List V, SqT K H a xs ∧ xs.length = i⟩
theorem turn_enumT {P : Program} {w : World} {K : PySem.W.Frag} {elts : List Expr} {kk : Nat} {tpos : Pos} (a e it : Addr) :
    Turn P w K (.Tuple elts kk tpos) (IteT K a) [e, it] e (fun i h => (∃ old, IsEnum h e it ((i : Nat) : Int) old) ∧ h.IsTupleIter it a i ∧ e ≠ it ∧ a ≠ it ∧ a ≠ e) where
  mem := by simp
  obj := fun i h st b hb => by
    obtain ⟨⟨old, he⟩, ⟨o, ho, hc, hd⟩, _⟩ := st
    have e' : b = e ∨ b = it := by simpa using hb
    rcases e' with z | z
    · rw [z]; exact ⟨_, he, fun v q => nomatch q⟩
    · rw [z]; exact ⟨o, ho, fun v q => by rw [hd] at q; cases q⟩
  keep := fun i h h' st k => let ⟨⟨old, he⟩, hi, hne⟩ := st; ⟨⟨old, k e (by simp) _ he⟩, hi.at fun o q => k it (by simp) o q, hne⟩
  item := by
    intro X hP hw hK hc i pins s σ H E I hf st hg
    subst hP hw hK
    obtain ⟨⟨old, he⟩, hit, hne, hai, hae⟩ := st
    obtain ⟨xs, x, hq, hx⟩ := hg
    obtain ⟨its, rv, p, hz⟩ := I.tuple hq
    obtain ⟨u, hu, ru⟩ := rv.get hx
    have hel : e < s.heap.objs.size := Heap.lt_size he
    have hil : it < s.heap.objs.size := by obtain ⟨_, q, _⟩ := hit; exact Heap.lt_size q
    have hD := Draws.tuple (prog := X.prog) (w := X.w) (A := X.A.in1) (show X.A.in1.handled = none from I.ok.hd hc) it a hai its.toArray
    have hsz : i < its.toArray.size := by
      have := (List.getElem?_eq_some_iff.mp hu).1
      simpa using this
    refine wpAny_pyNext_enum_itemC hD he ⟨hit, show s.heap.IsTuple a its.toArray from p⟩ hsz hne (by simpa using ⟨hne, Ne.symm hae⟩) fun u' h' tk hu' ho hit' hT hsz hk => ?_
    have eu : u' = u := by
      have h1 : its[i]? = some u' := by simpa using hu'
      rw [hu] at h1
      exact (Option.some.inj h1).symm
    subst eu
    refine ⟨_, rfl, wpAny_letOwnedTupleGo_enum (s := { s with heap := h', toks := tk + 1 }) ho fun h'' he' sb => ?_⟩
    have hT2 : h''.get? s.heap.objs.size = some { cls := .type "tuple", data := .seq #[.int i tk, u'] } := (sb.2 _ (Nat.ne_of_gt hel)).trans hT
    have new : ObjOk X.prog X.w (upd H s.heap.objs.size (.tup [.int (i : Nat), x])) h'' s.heap.objs.size (.tup [.int (i : Nat), x]) :=
      ⟨by show 2 ≤ sizeLine; decide, [.int i tk, u'], .cons ⟨_, rfl⟩ (.cons ru .nil), ⟨_, hT2, rfl, _, rfl⟩⟩
    have I1 : Inv X pins σ (upd H s.heap.objs.size (.tup [.int (i : Nat), x])) { s with heap := h'', toks := tk + 1 } :=
      I.turnedNew (ch := [e, it]) (fun b ob hb q => (sb.2 b (fun z => hb (by simp [z]))).trans (hk b ob (fun z => hb (by simp [z])) (fun z => hb (by simp [z])) q)) hf (Nat.le_refl _) new
    refine ⟨.ref s.heap.objs.size, _, I1, rfl, ⟨_, x, rfl, I.hok.fresh (Nat.le_refl _), rfl, fun ys hy => by rw [I.tuple_inj hy hq]; exact hx⟩, ⟨⟨u', ?_⟩, hit'.1.at fun o q => (sb.2 it (Ne.symm hne)).trans q, hne, hai, hae⟩, fun b hb => ?_⟩
    · have e1 : ((i + 1 : Nat) : Int) = (i : Int) + 1 := by omega
      rw [e1]; exact he'
    · have hb' : b < s.heap.objs.size := by
        have e' : b = e ∨ b = it := by simpa using hb
        rcases e' with z | z
        · rw [z]; exact hel
        · rw [z]; exact hil
      rw [upd_ne (Nat.ne_of_lt hb')]
      exact (hf b hb).1
  done := by
    intro X hP hw hK hc i pins s σ H E I hf st hg
    subst hP hw hK
    obtain ⟨⟨old, he⟩, hit, hne, hai, hae⟩ := st
    obtain ⟨xs, hq, hx⟩ := hg
    obtain ⟨its, rv, p, hz⟩ := I.tuple hq
    obtain ⟨f0, f1, f2, f3, f4, f5⟩ := hf it (by simp)
    have hl := rv.length
    have hD := Draws.tuple (prog := X.prog) (w := X.w) (A := X.A.in1) (show X.A.in1.handled = none from I.ok.hd hc) it a hai its.toArray
    have hn : its.toArray.size = i := by rw [List.size_toArray, ← hl, hx]
    refine wpAny_pyNext_enum_endD hD he (by rw [hn]; exact ⟨hit, show s.heap.IsTuple a its.toArray from p⟩) fun h' eb => ⟨rfl, I.turned (t' := s.toks) (fun b o hb q => eb b o hb q) f0 f1 f3 f4 f5⟩
  self := fun A i s Q E st h => let ⟨⟨_, he⟩, _⟩ := st; wpAny_pyIter_enum he h
def iEnumT (K : PySem.W.Frag) (ta : TA) : TI := fun σ H R => ta σ H fun vs H1 => ∃ a xs, vs = [.ref a] ∧ SqT K H1 a xs ∧ R (IteT K a) H1
theorem pi_enumT {X : Cx} {e : Expr} {ta : TA} {p pos tpos : Pos} {elts : List Expr} {kk : Nat} (hg : Gl X "enumerate") (hm : X.mg "enumerate" = none) (ha : PA X [e] ta) (hs : starEach [e] X.env = [(false, eval e X.env)] := by rfl) :
    PI X (.Tuple elts kk tpos) (.Call (.Name "enumerate" p) [e] [] pos) (iEnumT X.K ta) := by
  refine ⟨fun pins s σ H R I h => ?_⟩
  refine Call_ (ld_blt I hg hm boot_enumerate (PyProof.Rows.callWith_type1 (thn (ha.run pos pins s σ H _ I h) fun us s1 ⟨vs, H1, I1, r1, q1⟩ => ?_) hs rfl))
  obtain ⟨a, xs, ex, hq, q⟩ := q1
  subst ex
  cases r1 with
  | cons r rr =>
    cases rr
    cases r
    obtain ⟨its, rv, p', hz⟩ := I1.tuple hq
    have hal : a < s1.heap.objs.size := p'.lt
    refine enum_begins1 (begins_tuple a its.toArray) (show s1.heap.IsTuple a its.toArray from p') fun h' he hit hsz hk => wpAny_pyIter_enum he ?_
    have I2 : Inv X pins σ H1 { s1 with heap := h' } := I1.kept (t' := s1.toks) hk
    refine ⟨s1.heap.objs.size + 1, [s1.heap.objs.size + 1, s1.heap.objs.size], _, _, H1, rfl, I2, turn_enumT a (s1.heap.objs.size + 1) s1.heap.objs.size, ⟨⟨.none, he⟩, ⟨_, hit, rfl, rfl⟩, Nat.succ_ne_self _, Nat.ne_of_lt hal, Nat.ne_of_lt (Nat.lt_succ_of_lt hal)⟩, fun b hb => ?_, q⟩
    have e' : b = s1.heap.objs.size + 1 ∨ b = s1.heap.objs.size := by simpa using hb
    have hle : s1.heap.objs.size ≤ b := by
      rcases e' with z | z
      · rw [z]; exact Nat.le_add_right _ _
      · rw [z]; exact Nat.le_refl _
    exact I1.fpOk hle (I1.hok.fresh hle)
theorem for_enumT {K : PySem.W.Frag} {a : Addr} {xs : List V} {g : TG} {tb : TS} {D : Ends} {σ : L2.St} {H : Hp} (Pv : Nat → L2.St → Hp → Prop) (h0 : Pv 0 σ H) (hq : ∀ i σ H, Pv i σ H → SqT K H a xs)
    (hs : ∀ (i : Nat) (x : V) (T : Addr) (σ : L2.St) (H : Hp), xs[i]? = some x → Pv i σ H → H T = none → g (.ref T) σ (upd H T (.tup [.int (i : Nat), x])) fun σ2 H2 => tb { D with nx := Pv (i + 1), ct := Pv (i + 1), bk := D.nx } σ2 H2) (hd : ∀ σ H, Pv xs.length σ H → D.nx σ H) :
    ∃ W : Nat → Nat → L2.St → Hp → Prop, (∃ m, W 0 m σ H) ∧ ∀ i m σ H, W i m σ H →
      ((IteT K a).stop i H ∧ D.nx σ H) ∨ ((IteT K a).go i H ∧ ∃ N : L2.St → Hp → Prop, (∀ σ' H', N σ' H' → ∃ m', m' < m ∧ W (i + 1) m' σ' H') ∧ ∀ v H', (IteT K a).yld i H v H' → g v σ H' fun σ2 H2 => tb { D with nx := N, ct := N, bk := D.nx } σ2 H2) := by
  refine ⟨fun i m σ H => m = xs.length - i ∧ i ≤ xs.length ∧ Pv i σ H, ⟨xs.length, rfl, Nat.zero_le _, h0⟩, ?_⟩
  rintro i m σ H ⟨rfl, hi, p⟩
  have qx := hq i σ H p
  by_cases hlt : i < xs.length
  · have hx : xs[i]? = some xs[i] := List.getElem?_eq_getElem hlt
    refine .inr ⟨⟨xs, _, qx, hx⟩, Pv (i + 1), fun σ' H' p' => ⟨xs.length - (i + 1), by omega, rfl, hlt, p'⟩, fun v H' y => ?_⟩
    obtain ⟨T, x', rfl, hT, rfl, f1⟩ := y
    exact hs i x' T σ H (f1 xs qx) p hT
  · have e : i = xs.length := by omega
    subst e
    exact .inl ⟨⟨xs, qx, rfl⟩, hd σ H p⟩
end Zr

-- part ZOps
namespace Zb
open PySem PySem.Spec PyProof.Rows L2 Zr
section
variable {r : Option Addr} {K : PySem.W.Frag} {w : World} {G : List Sl} {ta : TA} {te tb : TE} {tt : TT} {P : Sl → Prop} {i j : Nat}
theorem small5 {n : Nat} (h : n ≤ 100000) : n ≤ sizeLine := Nat.le_trans h (by decide)
/-! tuple(list), list(tuple), slices, + -/
theorem ev_tupOf {P : List D → Prop} (h : El r te G P) : Ev r (tThen te (kTup K)) G (fun s => ∃ ds, s = .dat (.tup ds) ∧ P ds) := fun σ H e Q q =>
  h σ H e _ fun p H2 ds hp np k2 hl pd => by
    obtain ⟨xs, hx, hd⟩ := hl
    refine .inl ⟨p, xs, rfl, SqL.of hx, fun a ha => ?_⟩
    have kn : Kp r H2 (L2.upd H2 a (.tup xs)) := Kp.new ha
    exact q _ _ _ (k2.trans kn) (.dat (.tup upd_same (kn.dts hd))) ⟨ds, rfl, pd⟩
theorem ed_tupOf {ds : List D} (h : El r te G (fun x => x = ds)) : Ed r (tThen te (kTup K)) G (.tup ds) := (ev_tupOf h).imp fun s ⟨es, e1, e2⟩ => by rw [e1, e2]
theorem ed_tupOfL {a : Addr} {ds : List D} (h : Ev r te G (fun s => s = .lst a ds)) : Ed r (tThen te (kTup K)) G (.tup ds) := fun σ H e Q q =>
  h σ H e _ fun v H2 s k2 sv p => by
    subst p
    cases sv with
    | lst n hl =>
      obtain ⟨xs, hx, hd⟩ := hl
      refine .inl ⟨a, xs, rfl, SqL.of hx, fun b hb => ?_⟩
      have kn : Kp r H2 (L2.upd H2 b (.tup xs)) := Kp.new hb
      exact q _ _ _ (k2.trans kn) (.dat (.tup upd_same (kn.dts hd))) rfl
theorem rl_listOf {ds : List D} : RL r (fun xs H Q => ∃ p ys, xs = [.ref p] ∧ (SqL K H p ys ∨ SqT K H p ys) ∧ ∀ l, H l = none → Q (.ref l) (upd H l (.lst ys))) [.dat (.tup ds)] (fun x => x = ds) := fun H vs hv rk Q q => by
  cases hv with
  | cons a b =>
    cases b
    cases a.d with
    | tup ha hd =>
      rename_i a xs
      refine ⟨_, _, rfl, .inr (SqT.of ha), fun l hl => ?_⟩
      have kn : Kp r H (L2.upd H l (.lst xs)) := Kp.new hl
      exact q l _ _ hl (fresh_rk rk hl) kn ⟨_, upd_same, kn.dts hd⟩ rfl
theorem drop_cut (xs : List V) (k : Nat) : cutV xs (some (k : Int)) none = xs.drop k := by
  unfold cutV
  rw [HT.sIx_nat, HT.sIx_none]
  rcases Nat.le_total k xs.length with h | h
  · rw [Nat.min_eq_left h]
    exact List.take_of_length_le (by rw [List.length_drop]; exact Nat.le_refl _)
  · rw [Nat.min_eq_right h, List.drop_length, List.drop_eq_nil_of_le h, List.take_nil]
theorem take_cut (xs : List V) (k : Nat) : cutV xs none (some (k : Int)) = xs.take k := by
  unfold cutV
  rw [HT.sIx_nat, HT.sIx_none, List.drop_zero, Nat.sub_zero]
  rcases Nat.le_total k xs.length with h | h
  · rw [Nat.min_eq_left h]
  · rw [Nat.min_eq_right h, List.take_length, List.take_of_length_le h]
theorem eo_none : Eo r tNoPart G none := fun σ H e Q q => q H (Kp.refl r H)
theorem eo_some {i : Int} (h : Ed r te G (.int i)) : Eo r (tPart te) G (some i) := fun σ H e Q q => h σ H e _ fun v H2 s k2 sv p => by
  subst p
  cases sv.d
  exact ⟨i, rfl, q H2 k2⟩
/-- xs[k:] of a list -/
theorem el_dropL {a : Addr} {ds : List D} {k : Nat} {tl : TO} (h : Ev r te G (fun s => s = .lst a ds)) (h1 : Eo r tl G (some (k : Int))) : El r (tSl (rSlL K) te tl tNoPart) G (fun x => x = ds.drop k) := fun σ H e Q q =>
  h σ H e _ fun v H2 s k2 sv p => h1 σ H2 (e.mono k2) _ fun H3 k3 => by
    subst p
    cases sv with
    | lst n hl =>
      obtain ⟨xs, hx, hd⟩ := k3.ls n hl
      refine ⟨a, xs, rfl, SqL.of hx, fun p hp => ?_⟩
      have kn : Kp r H3 (L2.upd H3 p (.lst (cutV xs (some (k : Int)) none))) := Kp.new hp
      refine q p _ _ ((k2.trans k3).fresh hp) (fresh_rk ((k2.trans k3).rk e.rk) hp) ((k2.trans k3).trans kn) ⟨_, upd_same, ?_⟩ rfl
      rw [drop_cut] at kn ⊢
      exact kn.dts (hd.drop k)
theorem rd_sl {ds : List D} {lo hi : Option Int} {es : List D} (hne : ds.length ≠ 0 → ¬ (HT.sIx ds.length 0 lo = 0 ∧ HT.sIx ds.length ds.length hi = ds.length)) (hn : ds.length ≠ 0) (he : ∀ xs : List V, ∀ H, DtAll H xs ds → DtAll H (cutV xs lo hi) es)
    {tl th : TO} (h : Ed r te G (.tup ds)) (h1 : Eo r tl G lo) (h2 : Eo r th G hi) : Ed r (tSl (rSlA K) te tl th) G (.tup es) := fun σ H e Q q =>
  h σ H e _ fun v H2 s k2 sv p => h1 σ H2 (e.mono k2) _ fun H3 k3 => h2 σ H3 ((e.mono k2).mono k3) _ fun H4 k4 => by
    subst p
    cases (sv.mono (k3.trans k4)).d with
    | tup ha hd =>
      rename_i a xs
      have hl := hd.length
      refine ⟨a, xs, rfl, SqT.of ha, fun z => (hne hn (by rw [← hl]; exact z)).elim, fun _ p hp => ?_⟩
      have kn : Kp r H4 (L2.upd H4 p (.tup (cutV xs lo hi))) := Kp.new hp
      exact q _ _ _ (((k2.trans k3).trans k4).trans kn) (.dat (.tup upd_same (kn.dts (he xs _ hd)))) rfl
/-- t[:k], t[k:], not the whole -/
theorem ed_takeT {ds : List D} {k : Nat} {th : TO} (h : Ed r te G (.tup ds)) (h2 : Eo r th G (some (k : Int))) (hk : k < ds.length) : Ed r (tSl (rSlA K) te tNoPart th) G (.tup (ds.take k)) :=
  rd_sl (fun _ z => by rw [HT.sIx_nat] at z; omega) (by omega) (fun xs H hd => by rw [take_cut]; exact hd.take k) h eo_none h2
theorem ed_dropT {ds : List D} {k : Nat} {tl : TO} (h : Ed r te G (.tup ds)) (h2 : Eo r tl G (some (k : Int))) (hk : 0 < k) (hn : ds.length ≠ 0) : Ed r (tSl (rSlA K) te tl tNoPart) G (.tup (ds.drop k)) :=
  rd_sl (fun _ z => by rw [HT.sIx_nat] at z; omega) hn (fun xs H hd => by rw [drop_cut]; exact hd.drop k) h h2 eo_none
/-- t + u -/
theorem ed_catA {ds es : List D} (h : Ed r te G (.tup ds)) (h2 : Ed r tb G (.tup es)) (hl : ds.length + es.length ≤ 100000) : Ed r (tOp (rCatA K) te tb) G (.tup (ds ++ es)) := ed_op h h2 fun H x y hx hy rk Q q => by
  cases hx.d with
  | tup ha hd =>
    rename_i a xs
    cases hy.d with
    | tup hb he =>
      rename_i b ys
      have l1 := hd.length
      have l2 := he.length
      refine ⟨a, b, xs, ys, rfl, rfl, SqT.of ha, SqT.of hb, small5 (by omega), fun z => ?_, fun z1 z2 => ?_, fun z1 z2 p hp => ?_⟩
      · subst z
        cases hd
        exact q _ H _ (Kp.refl r H) (.dat (.tup hb he)) rfl
      · subst z2
        cases he
        exact q _ H _ (Kp.refl r H) (.dat (.tup ha hd)) (by rw [List.append_nil])
      · have kn : Kp r H (L2.upd H p (.tup (xs ++ ys))) := Kp.new hp
        exact q _ _ _ kn (.dat (.tup upd_same (kn.dts (hd.append he)))) rfl
/-- [x] * n -/
theorem el_rep {d : D} {n : Nat} (h : El r te G (fun x => x = [d])) (h2 : Ed r tb G (.int n)) (hn : n ≤ 100000) : El r (tOp rRep te tb) G (fun x => x = List.replicate n d) := fun σ H e Q q =>
  h σ H e _ fun p H2 ds hp np k2 hl pd => h2 σ H2 (e.mono k2) _ fun v H3 s k3 sv ps => by
    subst ps pd
    cases sv.d
    obtain ⟨xs, hx, hd⟩ := k3.ls np hl
    cases hd with
    | cons h1 hr =>
      cases hr
      rename_i v0
      refine ⟨p, n, _, rfl, rfl, hx, by omega, by omega, small5 (by rw [Int.toNat_natCast]; show 1 * n ≤ 100000; omega), ?_⟩
      intro a ha
      have kn : Kp r H3 (L2.upd H3 a (.lst (List.replicate (n : Int).toNat [v0]).flatten)) := Kp.new ha
      refine q a _ _ ((k2.trans k3).fresh ha) (fresh_rk ((k2.trans k3).rk e.rk) ha) ((k2.trans k3).trans kn) ⟨_, upd_same, ?_⟩ rfl
      rw [Int.toNat_natCast] at kn ⊢
      have e1 : ∀ (v : V) (m : Nat), (List.replicate m [v]).flatten = List.replicate m v := by
        intro v m
        induction m with
        | zero => rfl
        | succ m ih => rw [List.replicate_succ, List.flatten_cons, ih]; rfl
      rw [e1] at kn ⊢
      exact kn.dts (DtAll.replicate h1 n)
/-! built-ins -/
def cLen (K : PySem.W.Frag) : List V → Hp → VK → Prop := fun xs H Q => ∃ p ys, xs = [.ref p] ∧ (SqL K H p ys ∨ SqT K H p ys) ∧ Q (.int ys.length) H
theorem ed_lenT {ds : List D} (h : Ed r te G (.tup ds)) : Ed r (tCB (cLen K) (tCons te tNil)) G (.int ds.length) := ev_cb (ea_c h ea_nil) fun H vs hv rk Q q => by
  cases hv with
  | cons a b =>
    cases b
    cases a.d with
    | tup ha hd => exact ⟨_, _, rfl, .inr (SqT.of ha), q _ H _ (Kp.refl r H) (.dat (.int _)) (by rw [hd.length])⟩
theorem ed_lenL {a : Addr} {ds : List D} (h : Ev r te G (fun s => s = .lst a ds)) : Ed r (tCB (cLen K) (tCons te tNil)) G (.int ds.length) := ev_cb (ea_c h ea_nil) fun H vs hv rk Q q => by
  cases hv with
  | cons a b =>
    cases b
    cases a with
    | lst n hl =>
      obtain ⟨xs, hx, hd⟩ := hl
      exact ⟨_, _, rfl, .inl (SqL.of hx), q _ H _ (Kp.refl r H) (.dat (.int _)) (by rw [hd.length])⟩
theorem DtKs.length {H : Hp} : ∀ {vs : List (List Key × V)} {ds : List (List Nat × D)}, DtKs H vs ds → vs.length = ds.length
  | _, _, .nil => rfl
  | _, _, .cons _ b => congrArg (· + 1) (DtKs.length b)
theorem ed_lenD {ds : List (List Nat × D)} (h : Ed r te G (.dct ds)) : Ed r (tCB rLenD (tCons te tNil)) G (.int ds.length) := ev_cb (ea_c h ea_nil) fun H vs hv rk Q q => by
  cases hv with
  | cons a b =>
    cases b
    cases a.d with
    | dct ha hd => exact ⟨_, _, rfl, ha, q _ H _ (Kp.refl r H) (.dat (.int _)) (by rw [hd.length])⟩
def cAbs : List V → Hp → VK → Prop := fun xs H Q => ∃ i, xs = [.int i] ∧ Q (.int (if i < 0 then -i else i)) H
theorem abs_eq (i : Int) : (if i < 0 then -i else i) = (i.natAbs : Int) := by split <;> omega
theorem ed_abs {i : Int} (h : Ed r te G (.int i)) : Ed r (tCB cAbs (tCons te tNil)) G (.int (i.natAbs : Int)) := ev_cb (ea_c h ea_nil) fun H vs hv rk Q q => by
  cases hv with
  | cons a b =>
    cases b
    cases a.d
    exact ⟨i, rfl, q _ H _ (Kp.refl r H) (.dat (.int _)) (by rw [abs_eq])⟩
def cMax : List V → Hp → VK → Prop := fun xs H Q => ∃ i j, xs = [.int i, .int j] ∧ Q (.int (if j > i then j else i)) H
def cMin : List V → Hp → VK → Prop := fun xs H Q => ∃ i j, xs = [.int i, .int j] ∧ Q (.int (if j < i then j else i)) H
theorem ed_max {i j : Int} (h : Ed r te G (.int i)) (h2 : Ed r tb G (.int j)) : Ed r (tCB cMax (tCons te (tCons tb tNil))) G (.int (max i j)) := ev_cb (ea_c h (ea_c h2 ea_nil)) fun H vs hv rk Q q => by
  cases hv with
  | cons a b =>
    cases b with
    | cons b c =>
      cases c
      cases a.d
      cases b.d
      refine ⟨i, j, rfl, q _ H _ (Kp.refl r H) (.dat (.int _)) ?_⟩
      have : (if j > i then j else i) = max i j := by rw [Int.max_def]; split <;> split <;> omega
      rw [this]
theorem ed_min {i j : Int} (h : Ed r te G (.int i)) (h2 : Ed r tb G (.int j)) : Ed r (tCB cMin (tCons te (tCons tb tNil))) G (.int (min i j)) := ev_cb (ea_c h (ea_c h2 ea_nil)) fun H vs hv rk Q q => by
  cases hv with
  | cons a b =>
    cases b with
    | cons b c =>
      cases c
      cases a.d
      cases b.d
      refine ⟨i, j, rfl, q _ H _ (Kp.refl r H) (.dat (.int _)) ?_⟩
      have : (if j < i then j else i) = min i j := by rw [Int.min_def]; split <;> split <;> omega
      rw [this]
def cInt : List V → Hp → VK → Prop := fun xs H Q => (∃ i, xs = [.int i] ∧ Q (.int i) H) ∨ ∃ k, xs = [.bl k] ∧ Q (.int (if k then 1 else 0)) H
theorem ed_intOf {i : Int} (h : Ed r te G (.int i)) : Ed r (tCB cInt (tCons te tNil)) G (.int i) := ev_cb (ea_c h ea_nil) fun H vs hv rk Q q => by
  cases hv with
  | cons a b =>
    cases b
    cases a.d
    exact .inl ⟨i, rfl, q _ H _ (Kp.refl r H) (.dat (.int _)) rfl⟩
/-- all(a new list of bools) -/
theorem ed_all {bs : List Bool} (h : El r te G (fun x => x = bs.map D.bl)) : Ed r (tCB (rAll K) (tCons te tNil)) G (.bl (bs.all id)) := fun σ H e Q q =>
  h σ H e _ fun p H2 ds hp np k2 hl pd => by
    subst pd
    obtain ⟨xs, hx, hd⟩ := hl
    refine ⟨p, bs, rfl, SqL.of (by rw [← hd.bls]; exact hx), q _ H2 _ k2 (.dat (.bl _)) rfl⟩
/-- isinstance -/
def D.tyn : D → String
  | .non => "NoneType" | .bl _ => "bool" | .int _ => "int" | .str _ => "str" | .tup _ => "tuple" | .dct _ => "dict"
theorem tyx_of {H : Hp} {v : V} {d : D} (h : Dt H v d) (hd : d.tyn ≠ "dict") : TyX K H v (.type d.tyn) := by
  cases h with
  | non => exact .base .non
  | bl b => exact .base (.bl b)
  | int b => exact .base (.int b)
  | str b => exact .base (.str b)
  | tup a b => exact .base (.tup a)
  | dct a b => exact (hd rfl).elim
theorem ed_isi {d : D} {n : String} {b : Bool} (h : Ed r te G d) (hb : kitB d.tyn n = some b) (hd : d.tyn ≠ "dict" := by decide) : Ed r (tCB (rIsi K) (tCons te (tCons (tC (.ty n)) tNil))) G (.bl b) := fun σ H e Q q =>
  h σ H e _ fun v H2 s k2 sv ps => by
    subst ps
    exact ⟨v, .ty n, .type d.tyn, .type n, b, rfl, .ty n, tyx_of sv.d hd, kit_ty hb, q _ H2 _ k2 (.dat (.bl b)) rfl⟩
/-! in a tuple, a list of ints -/
theorem inV_ints (n : Int) : ∀ ns : List Int, inV (.int n) (ns.map V.int) = decide (n ∈ ns)
  | [] => by simp [inV]
  | m :: ns => by
    have ih := inV_ints n ns
    unfold inV at ih ⊢
    rw [List.map_cons, List.any_cons, ih]
    by_cases h : n = m
    · subst h
      simp [eqV]
    · have h2 : ¬ m = n := fun z => h z.symm
      simp [eqV, h, h2]
theorem flat_ints (ns : List Int) : (ns.map V.int).all flatV = true := by
  rw [List.all_map]
  exact List.all_eq_true.mpr fun _ _ => rfl
theorem ed_in {n : Int} {ns : List Int} (h : Ed r te G (.int n)) (h2 : Ed r tb G (.tup (ns.map D.int))) : Ed r (tOp (rIn K false) te tb) G (.bl (decide (n ∈ ns))) := ed_op h h2 fun H x y hx hy rk Q q => by
  cases hx.d
  cases hy.d with
  | tup ha hd =>
    have ei := hd.ints
    subst ei
    refine ⟨_, _, rfl, .inr (SqT.of ha), rfl, flat_ints ns, q _ H _ (Kp.refl r H) (.dat (.bl _)) ?_⟩
    rw [if_neg (by decide), inV_ints]
theorem ed_notIn {n : Int} {ns : List Int} (h : Ed r te G (.int n)) (h2 : Ed r tb G (.tup (ns.map D.int))) : Ed r (tOp (rIn K true) te tb) G (.bl (!decide (n ∈ ns))) := ed_op h h2 fun H x y hx hy rk Q q => by
  cases hx.d
  cases hy.d with
  | tup ha hd =>
    have ei := hd.ints
    subst ei
    refine ⟨_, _, rfl, .inr (SqT.of ha), rfl, flat_ints ns, q _ H _ (Kp.refl r H) (.dat (.bl _)) ?_⟩
    rw [if_pos rfl, inV_ints]
/-! == of data -/
mutual
def D.pd : D → PyData
  | .non => .none | .bl b => .bool b | .int i => .int i | .str s => .str s | .tup ds => .tuple (pds ds) | .dct _ => .none
def pds : List D → List PyData
  | [] => []
  | d :: ds => d.pd :: pds ds
def D.nod : D → Bool
  | .tup ds => nods ds | .dct _ => false | _ => true
def nods : List D → Bool
  | [] => true
  | d :: ds => d.nod && nods ds
end
mutual
theorem Dt.dp {H : Hp} : ∀ {v : V} {d : D}, Dt H v d → d.nod = true → Dp K H v d.pd
  | _, _, .non, _ => .non
  | _, _, .bl b, _ => .bl b
  | _, _, .int b, _ => .int b
  | _, _, .str b, _ => .str b
  | _, _, .tup ha hd, hn => .tup (SqT.of ha) (DtAll.dp hd hn)
  | _, _, .dct _ _, hn => by cases hn
theorem DtAll.dp {H : Hp} : ∀ {v : List V} {d : List D}, DtAll H v d → nods d = true → DpAll K H v (pds d)
  | _, _, .nil, _ => .nil
  | _, _, .cons (d := d) (ds := ds) a b, hn => by
    have hn' : (d.nod && nods ds) = true := hn
    rw [Bool.and_eq_true] at hn'
    exact .cons (Dt.dp a hn'.1) (DtAll.dp b hn'.2)
end
theorem ed_eqD {x y : D} (h : Ed r te G x) (h2 : Ed r tb G y) (n1 : x.nod = true) (n2 : y.nod = true) (s1 : SeqAt.shaped x.pd = true) (s2 : SeqAt.shaped y.pd = true) : Ed r (tOp (rEqD K) te tb) G (.bl (PyData.eqv x.pd y.pd)) := ed_op h h2 fun H u v hx hy rk Q q =>
  ⟨x.pd, y.pd, hx.d.dp n1, hy.d.dp n2, s1, s2, q _ H _ (Kp.refl r H) (.dat (.bl _)) rfl⟩
theorem ed_inD {x : D} {ys : List D} (h : Ed r te G x) (h2 : Ed r tb G (.tup ys)) (n1 : x.nod = true) (n2 : nods ys = true) (s1 : SeqAt.shaped x.pd = true) (s2 : SeqAt.shaped (.tuple (pds ys)) = true) : Ed r (tOp (rInT K) te tb) G (.bl ((pds ys).any fun z => PyData.eqv z x.pd)) := ed_op h h2 fun H u v hx hy rk Q q =>
  ⟨x.pd, pds ys, hx.d.dp n1, (show Dp K H v (D.tup ys).pd from hy.d.dp n2), s1, s2, q _ H _ (Kp.refl r H) (.dat (.bl _)) rfl⟩
/-! sorted(set(t)) -/
def cSorted (w : World) : List V → Hp → VK → Prop := rSortedSet w
theorem el_sortedSet {ns : List Int} (h : Ed r te G (.tup (ns.map D.int))) (hl : ns.length < 64) :
    El r (tCB (rSortedSet w) (tCons (tCB (rSetT w K) (tCons te tNil)) tNil)) G (fun x => ∃ ms : List Int, x = ms.map D.int ∧ ms.Pairwise (· < ·) ∧ ∀ k, k ∈ ms ↔ k ∈ ns) := fun σ H e Q q =>
  h σ H e _ fun v H2 s k2 sv ps => by
    subst ps
    cases sv.d with
    | tup ha hd =>
      rename_i a xs
      have ei := hd.ints
      subst ei
      refine ⟨a, ns, rfl, SqT.of ha, by omega, fun b c hb hc => ?_⟩
      have kn : Kp r H2 (L2.upd H2 b (SetO w b (fun j => decide (j ∈ ns)) c)) := Kp.new hb
      refine ⟨b, _, c, rfl, upd_same, by omega, fun ms p hs hm hlen hp => ?_⟩
      have kn2 : Kp r (L2.upd H2 b (SetO w b (fun j => decide (j ∈ ns)) c)) (L2.upd (L2.upd H2 b (SetO w b (fun j => decide (j ∈ ns)) c)) p (.lst (ms.map V.int))) := Kp.new hp
      have kk := (k2.trans kn)
      exact q p _ _ (kk.fresh hp) (fresh_rk (kk.rk e.rk) hp) (kk.trans kn2) ⟨_, upd_same, DtAll.of_ints ms⟩ ⟨ms, rfl, hs, fun k => by rw [hm k]; simp⟩
/-! dicts -/
theorem kK_inj : ∀ {a b : List Nat}, kK a = kK b → a = b
  | [], [], _ => rfl
  | [], _ :: _, h => by cases h
  | _ :: _, [], h => by cases h
  | x :: xs, y :: ys, h => by
    have h1 : (Sum.inl (x : Int) : Key) :: kK xs = (Sum.inl (y : Int) : Key) :: kK ys := h
    rw [List.cons.injEq] at h1
    have h2 : (x : Int) = (y : Int) := Sum.inl.inj h1.1
    rw [kK_inj h1.2, show x = y by omega]
def dlook (ds : List (List Nat × D)) (k : List Nat) : Option D := (ds.find? fun p => decide (p.1 = k)).map (·.2)
theorem DtKs.look {H : Hp} (k : List Nat) : ∀ {vs : List (List Key × V)} {ds : List (List Nat × D)}, DtKs H vs ds → (match dlook ds k with | none => valV vs (kK k) = none | some d => ∃ v, valV vs (kK k) = some v ∧ Dt H v d)
  | _, _, .nil => rfl
  | _, _, .cons (k := k') (v := v) (d := d) (vs := vs) (ds := ds) a b => by
    have ih := DtKs.look k b
    by_cases h : k' = k
    · subst h
      have e1 : dlook ((k', d) :: ds) k' = some d := by simp [dlook]
      rw [e1]
      exact ⟨v, valV_pos rfl, a⟩
    · have e1 : dlook ((k', d) :: ds) k = dlook ds k := by simp [dlook, h]
      have e2 : valV ((kK k', v) :: vs) (kK k) = valV vs (kK k) := valV_neg fun z => h (kK_inj z)
      rw [e1, e2]
      exact ih
theorem keyT {H : Hp} {v : V} {k : List Nat} (h : Dt H v (.tup (k.map fun (n : Nat) => D.int n))) : ∃ b, v = .ref b ∧ H b = some (.tup ((kK k).map kV)) := by
  cases h with
  | tup ha hd =>
    refine ⟨_, rfl, ?_⟩
    have e : ∀ (k : List Nat) (xs : List V), DtAll H xs (k.map fun (n : Nat) => D.int n) → xs = (kK k).map kV := by
      intro k
      induction k with
      | nil => intro xs h; cases h; rfl
      | cons n k ih =>
        intro xs h
        cases h with
        | cons a b =>
          cases a
          rw [ih _ b]
          rfl
    rw [← e k _ hd]
    exact ha
theorem ed_dget {ds : List (List Nat × D)} {k : List Nat} {d : D} (h : Ed r te G (.dct ds)) (h2 : Ed r tb G (.tup (k.map fun (n : Nat) => D.int n))) (hd : dlook ds k = some d) : Ed r (tDGet te tb) G d := fun σ H e Q q =>
  h σ H e _ fun v H2 s k2 sv ps => h2 σ H2 (e.mono k2) _ fun v2 H3 s3 k3 sv3 ps3 => by
    subst ps ps3
    cases (sv.mono k3).d with
    | dct ha hks =>
      rename_i a xs
      obtain ⟨b, rfl, hb⟩ := keyT sv3.d
      have hl := hks.look k
      rw [hd] at hl
      obtain ⟨y, hy, hyd⟩ := hl
      exact ⟨a, y, rfl, .inr ⟨xs, kK k, b, ha, rfl, hb, hy.symm⟩, q y H3 _ (k2.trans k3) (.dat hyd) rfl⟩
theorem ed_dget2 {ds : List (List Nat × D)} {k : List Nat} {d0 : D} {tx : TE} (h : Ed r te G (.dct ds)) (h2 : Ed r tb G (.tup (k.map fun (n : Nat) => D.int n))) (h3 : Ed r tx G d0) : Ed r (tDGet2 te tb tx) G ((dlook ds k).getD d0) := fun σ H e Q q =>
  h σ H e _ fun v H2 s k2 sv ps => by
    subst ps
    cases sv.d with
    | dct ha hks =>
      rename_i a xs
      refine ⟨a, rfl, .inr ⟨xs, ha⟩, h2 σ H2 (e.mono k2) _ fun v2 H3 s3 k3 sv3 ps3 => h3 σ H3 ((e.mono k2).mono k3) _ fun v4 H4 s4 k4 sv4 ps4 => ?_⟩
      subst ps3 ps4
      obtain ⟨b, rfl, hb⟩ := keyT (sv3.mono k4).d
      have ha4 := k4.dct _ _ (k3.dct _ _ ha)
      have hks4 := (hks.mono (k3.trans k4).tup (k3.trans k4).dct)
      have hl := hks4.look k
      have kk := (k2.trans k3).trans k4
      refine ⟨valV xs (kK k), .inr ⟨xs, kK k, b, ha4, rfl, hb, rfl⟩, ?_⟩
      cases hq : dlook ds k with
      | none =>
        rw [hq] at hl
        rw [show valV xs (kK k) = none from hl]
        exact q v4 H4 _ kk sv4 (by rw [hq]; rfl)
      | some d =>
        rw [hq] at hl
        obtain ⟨y, hy, hyd⟩ := hl
        rw [hy]
        exact q y H4 _ kk (.dat hyd) (by rw [hq]; rfl)
/-- what leaves all as it is -/
def Es (te : TE) (G : List Sl) (d : D) : Prop := ∀ (r : Option Addr) σ H, En r H σ G → ∀ Q : VK, (∀ v H2, Same H H2 → Dt H2 v d → Q v H2) → te σ H Q
def EsA (ta : TA) (G : List Sl) (ds : List D) : Prop := ∀ (r : Option Addr) σ H, En r H σ G → ∀ Q : List V → Hp → Prop, (∀ v H2, Same H H2 → DtAll H2 v ds → Q v H2) → ta σ H Q
theorem es_var {d : D} (hg : G[i]? = some (.dat d)) : Es (tVar i) G d := fun r σ H e Q q => by
  obtain ⟨v, h1, h2⟩ := e.get hg (by intro z; cases z)
  exact ⟨v, h1, q v H (Same.refl H) h2.d⟩
theorem es_int {n : Int} : Es (tC (.int n)) G (.int n) := fun r σ H e Q q => q _ H (Same.refl H) (.int n)
theorem esa_nil : EsA tNil G [] := fun r σ H e Q q => q [] H (Same.refl H) .nil
theorem esa_cons {tr : TA} {d : D} {ds : List D} (h : Es te G d) (hr : EsA tr G ds) : EsA (tCons te tr) G (d :: ds) := fun r σ H e Q q =>
  h r σ H e _ fun v H2 k2 hv => hr r σ H2 (e.mono (Kp.of k2)) _ fun vs H3 k3 hvs => q _ H3 (k2.trans k3) (.cons (hv.mono (Kp.of (r := none) k3).tup (Kp.of (r := none) k3).dct) hvs)
theorem es_tup {tr : TA} {ds : List D} (h : EsA tr G ds) (hl : ds.length ≤ 1000 := by exact Nat.le_of_ble_eq_true rfl) : Es (tTup tr) G (.tup ds) := fun r σ H e Q q =>
  h r σ H e _ fun vs H2 k2 hvs => ⟨Nat.le_of_lt (small1000 (by rw [hvs.length]; exact hl)), fun p hp => q _ _ (k2.trans (same_new hp)) (.tup upd_same ((Kp.new (r := none) hp).dts hvs))⟩
mutual
theorem Dt.monoT {H H' : Hp} (ht : ∀ a xs, H a = some (.tup xs) → H' a = some (.tup xs)) : ∀ {v : V} {d : D}, Dt H v d → d.nod = true → Dt H' v d
  | _, _, .non, _ => .non
  | _, _, .bl b, _ => .bl b
  | _, _, .int i, _ => .int i
  | _, _, .str x, _ => .str x
  | _, _, .tup h r, hn => .tup (ht _ _ h) (DtAll.monoT ht r hn)
  | _, _, .dct h r, hn => by cases hn
theorem DtAll.monoT {H H' : Hp} (ht : ∀ a xs, H a = some (.tup xs) → H' a = some (.tup xs)) : ∀ {vs : List V} {ds : List D}, DtAll H vs ds → nods ds = true → DtAll H' vs ds
  | _, _, .nil, _ => .nil
  | _, _, .cons (d := d) (ds := ds) a b, hn => by
    have hn' : (d.nod && nods ds) = true := hn
    rw [Bool.and_eq_true] at hn'
    exact .cons (Dt.monoT ht a hn'.1) (DtAll.monoT ht b hn'.2)
end
/-- {k: v} -/
theorem ed_disp1 {k : List Nat} {d : D} (h : Es te G (.tup (k.map fun (n : Nat) => D.int n))) (h2 : Es tb G d) (hn : d.nod = true) : Ed r (tDisp1 te tb) G (.dct [(k, d)]) := fun σ H e Q q p hp => by
  have kn : Kp r H (L2.upd H p (.dT [])) := Kp.new hp
  refine h r σ _ (e.mono kn) _ fun v H2 k2 hv => h2 r σ H2 ((e.mono kn).mono (Kp.of k2)) _ fun v3 H3 k3 hv3 => ?_
  have kk : Same (L2.upd H p (.dT [])) H3 := k2.trans k3
  have hv' : Dt H3 v (.tup (k.map fun (n : Nat) => D.int n)) := (Kp.of (r := none) k3).dt hv
  obtain ⟨a, rfl, ha⟩ := keyT hv'
  have hp3 : H3 p = some (.dT []) := kk p _ upd_same
  refine ⟨a, kK k, rfl, ha, hp3, ?_⟩
  have kf : Kp r H (L2.upd H3 p (.dT [(kK k, v3)])) := (kn.trans (Kp.of kk)).mut hp
  have nt : ∀ (c : Addr) (zs : List V), H3 c = some (.tup zs) → L2.upd H3 p (.dT [(kK k, v3)]) c = some (.tup zs) := fun c zs e => by rw [upd_ne (ne_of e hp3 (by intro z; cases z))]; exact e
  exact q _ _ _ kf (.dat (.dct (.inl upd_same) (.cons (hv3.monoT nt hn) .nil))) rfl
end
end Zb

-- part ZTxt
/-! The text by places, what the top has left, contracts of defs. -/
namespace Zk
open PySem PySem.Spec PyProof.Rows L2 Zb Zr
def top (i : Nat) : Stmt := PySem.Challenge.pw_sevenruns_k03_whole_carrying.main.body.getD i (.Pass ⟨0, 0, 0, 0⟩)
abbrev s_is_integer : Stmt := top 5
abbrev s_common_divisor : Stmt := top 6
abbrev s_is_quotient : Stmt := top 7
abbrev s_is_point : Stmt := top 8
abbrev s_is_plain : Stmt := top 10
abbrev s_lowest_terms : Stmt := top 12
abbrev s_plus : Stmt := top 13
abbrev s_minus : Stmt := top 14
abbrev s_times : Stmt := top 15
abbrev s_number_by : Stmt := top 17
abbrev s_carried_all : Stmt := top 18
abbrev s_carried_of : Stmt := top 19
abbrev s_numbers_of : Stmt := top 20
abbrev s_counting_of : Stmt := top 21
abbrev s_mix_value : Stmt := top 23
abbrev s_line_value : Stmt := top 24
abbrev s_run_lines : Stmt := top 25
abbrev s_law_row : Stmt := top 27
abbrev s_law_take : Stmt := top 28
abbrev s_law_lowest : Stmt := top 29
abbrev s_law_added : Stmt := top 30
abbrev s_law_product : Stmt := top 31
abbrev s_law_quotient : Stmt := top 32
abbrev s_law_place : Stmt := top 33
abbrev s_law_line : Stmt := top 34
abbrev s_law_plainer : Stmt := top 35
abbrev s_law_joined : Stmt := top 36
abbrev s_law_number : Stmt := top 37
abbrev s_law_form : Stmt := top 38
abbrev s_law_stand : Stmt := top 39
abbrev s_law_short : Stmt := top 40
abbrev s_law_step : Stmt := top 41
abbrev s_law_long : Stmt := top 42
abbrev s_law_counting : Stmt := top 43
abbrev s_law_same : Stmt := top 44
abbrev s_law_stays : Stmt := top 45
abbrev s_law_ask : Stmt := top 46
abbrev s_law_mixed : Stmt := top 47
abbrev s_law : Stmt := top 48
abbrev s_init : Stmt := inClass (top 3) 0
/-- a def as it stands behind the top -/
def Dfn (K : PySem.W.Frag) (mg : Str → Option Value) (x : Str) (st : Stmt) : Prop := ∃ f fd, FunD K x x (defArgs st) (defBody st) (defScope st) [] [] f fd ∧ mg x = some (.ref f)
/-- a def that keeps its promise -/
structure Cl (P : Program) (w : World) (K : PySem.W.Frag) (mg : Str → Option Value) (base : Heap) (k : Nat) (x : Str) (sp : Sp) : Prop where
  ex : ∃ f fd ps, FnOk P w K mg base CX0 k f fd ps sp ∧ mg x = some (.ref f) ∧ PySem.W.keepIn K (.ref f) = true ∧ Binds K fd ps []
structure Txt (K : PySem.W.Frag) (mg : Str → Option Value) : Prop where
  b_len : mg "len" = none
  b_isinstance : mg "isinstance" = none
  b_int : mg "int" = none
  b_bool : mg "bool" = none
  b_tuple : mg "tuple" = none
  b_str : mg "str" = none
  b_abs : mg "abs" = none
  b_all : mg "all" = none
  b_range : mg "range" = none
  b_sorted : mg "sorted" = none
  b_set : mg "set" = none
  b_list : mg "list" = none
  b_zip : mg "zip" = none
  b_enumerate : mg "enumerate" = none
  b_max : mg "max" = none
  b_min : mg "min" = none
  d_is_integer : Dfn K mg "is_integer" s_is_integer
  d_common_divisor : Dfn K mg "_common_divisor" s_common_divisor
  d_is_quotient : Dfn K mg "is_quotient" s_is_quotient
  d_is_point : Dfn K mg "is_point" s_is_point
  d_is_plain : Dfn K mg "is_plain" s_is_plain
  d_lowest_terms : Dfn K mg "_lowest_terms" s_lowest_terms
  d_plus : Dfn K mg "plus" s_plus
  d_minus : Dfn K mg "minus" s_minus
  d_times : Dfn K mg "times" s_times
  d_number_by : Dfn K mg "_number_by" s_number_by
  d_carried_all : Dfn K mg "_carried_all" s_carried_all
  d_carried_of : Dfn K mg "carried_of" s_carried_of
  d_numbers_of : Dfn K mg "numbers_of" s_numbers_of
  d_counting_of : Dfn K mg "counting_of" s_counting_of
  d_mix_value : Dfn K mg "_mix_value" s_mix_value
  d_line_value : Dfn K mg "_line_value" s_line_value
  d_run_lines : Dfn K mg "run_lines" s_run_lines
  d_law_row : Dfn K mg "_law_row" s_law_row
  d_law_take : Dfn K mg "_law_take" s_law_take
  d_law_lowest : Dfn K mg "_law_lowest" s_law_lowest
  d_law_added : Dfn K mg "_law_added" s_law_added
  d_law_product : Dfn K mg "_law_product" s_law_product
  d_law_quotient : Dfn K mg "_law_quotient" s_law_quotient
  d_law_place : Dfn K mg "_law_place" s_law_place
  d_law_line : Dfn K mg "_law_line" s_law_line
  d_law_plainer : Dfn K mg "_law_plainer" s_law_plainer
  d_law_joined : Dfn K mg "_law_joined" s_law_joined
  d_law_number : Dfn K mg "_law_number" s_law_number
  d_law_form : Dfn K mg "_law_form" s_law_form
  d_law_stand : Dfn K mg "_law_stand" s_law_stand
  d_law_short : Dfn K mg "_law_short" s_law_short
  d_law_step : Dfn K mg "_law_step" s_law_step
  d_law_long : Dfn K mg "_law_long" s_law_long
  d_law_counting : Dfn K mg "_law_counting" s_law_counting
  d_law_same : Dfn K mg "_law_same" s_law_same
  d_law_stays : Dfn K mg "_law_stays" s_law_stays
  d_law_ask : Dfn K mg "_law_ask" s_law_ask
  d_law_mixed : Dfn K mg "_law_mixed" s_law_mixed
  d_law : Dfn K mg "law" s_law
section
variable {X : Cx} {k j : Nat} {x : Str} {sp : Sp} {p pos : Pos} {e : Expr} {es : List Expr} {t : TA}
theorem pe_cl (c : Cl X.prog X.w X.K X.mg X.base k x sp) (hr : Room j X.A) (hk : k ≤ j) (hg : Gl X x) (ha : PA X (e :: es) t)
    (hdb : (x == ("__debug__" : Str)) = false := by decide) (he : starEach (e :: es) X.env = (false, eval e X.env) :: starEach es X.env := by rfl) (hpl : (backTo pos (starEach es X.env)).any (·.1) = false := by rfl) :
    PE X (.Call (.Name x p) (e :: es) [] pos) (tCall sp [] E0 t) := by
  obtain ⟨f, fd, ps, F, hm, kp, b⟩ := c.ex
  exact pe_call F (hr.mono hk) hg hm kp b .nil pass0 ha hdb he hpl
end
theorem mkCl {P : Program} {w : World} {K : PySem.W.Frag} {mg : Str → Option Value} {base : Heap} {x : Str} {st : Stmt} {N ps : List Str} {k : Nat} {sp : Sp} (D : Dfn K mg x st) (S : FnScope N ps (defScope st))
    (hb : ∀ (kV doc pm : Value) (an : Option Addr) (cdv ct : Value) (us : List Value), us.length = ps.length → bindArgs (PySem.W.fnOf x x (defArgs st) (defBody st) (defScope st) .none kV doc pm an cdv ct) ⟨us, []⟩ = pure (ps.zip us))
    (len : ∀ vs H Q E, sp vs H Q E → vs.length = ps.length)
    (hbody : ∀ (f : Addr) (cdv : Value) (A : Around) (outer : List Env) (s : Shared) (H : Hp) (vs : List V) (Q : VK) (E : XK), Room k (A.deeper (envOfC x (defScope st) s.heap.objs.size f cdv)) → sp vs H Q E →
      ∃ t, PSs (cxOf CX0 P w K mg base N x (defScope st) f cdv A outer s H E).nox (defBody st) t ∧ t { nx := fun _ H' => Q .non H', rt := Q } (start N vs) H) : Cl P w K mg base (k + 1) x sp := by
  obtain ⟨f, fd, F, hm⟩ := D
  refine ⟨f, fd, ps, F.ok S len fun cdv A outer s H vs Q E hr h => ?_, hm, F.kp, F.bindsN hb⟩
  obtain ⟨t, h1, h2⟩ := hbody f cdv A outer s H vs Q E hr h
  exact ⟨t, h1.nox, h2⟩
end Zk

-- part ZLn
namespace Zk
open PySem PySem.Spec PyProof.Rows L2 Zb Zr Zm
/-! quotients, lines as data -/
def qD (q : Qt) : D := .tup [.int q.1, .int q.2]
def nD (n : Nat) : D := .int (n : Int)
def wS : Wd → Str
  | .add => "add" | .sub => "sub" | .mul => "mul"
inductive Ln where
  | num (q : Qt) | op (w : Wd) (a b : Nat)
def lD : Ln → D
  | .num q => .tup [.str "num", qD q]
  | .op w a b => .tup [.str (wS w), nD a, nD b]
def QSm (q : Qt) : Prop := QOk q ∧ q.1.natAbs ≤ 4 ∧ q.2.natAbs ≤ 3
def LnOk (n : Nat) : Ln → Prop
  | .num q => QSm q
  | .op _ a b => a < n ∧ b < n
section
variable {r : Option Addr} {K : PySem.W.Frag} {G : List Sl} {σ : L2.St} {H H0 : Hp} {ta : TA} {te : TE} {tt : TT} {t u t1 t2 tb : TS} {D' : Ends} {P : Sl → Prop} {i j : Nat}
theorem s_while (Pv : Nat → L2.St → Hp → Prop) (m0 : Nat) (h0 : Pv m0 σ H)
    (hs : ∀ m σ' H', Pv m σ' H' → ∃ G' b, En r H' σ' G' ∧ Eb r tt G' b ∧ (b = true → ∀ H2, En r H2 σ' G' → Kp r H' H2 → tb { D' with nx := fun σ2 H3 => ∃ m', m' < m ∧ Pv m' σ2 H3, ct := fun σ2 H3 => ∃ m', m' < m ∧ Pv m' σ2 H3, bk := D'.nx } σ' H2) ∧ (b = false → ∀ H2, En r H2 σ' G' → Kp r H' H2 → D'.nx σ' H2)) : tWhile tt tb D' σ H := by
  refine ⟨Pv, ⟨m0, h0⟩, fun m σ' H' hw => ?_⟩
  obtain ⟨G', b, e, hb, k1, k2⟩ := hs m σ' H' hw
  refine hb σ' H' e _ fun c H2 k ec => ?_
  subst ec
  cases c with
  | true =>
    rw [if_pos rfl]
    exact ⟨_, fun _ _ h => h, k1 rfl H2 (e.mono k) k⟩
  | false =>
    rw [if_neg (by decide)]
    exact k2 rfl H2 (e.mono k) k
theorem q_set {s : Sl} (e : En r H σ G) (h : Ev r te G (fun x => x = s)) (k : ∀ σ' H', En r H' σ' (G.set i s) → Kp r H H' → u D' σ' H') : tSeq (tAsg te (gName i)) u D' σ H := s_set (D' := { D' with nx := u D' }) e h k
theorem q_setP (e : En r H σ G) (h : Ev r te G P) (k : ∀ s σ' H', P s → En r H' σ' (G.set i s) → Kp r H H' → u D' σ' H') : tSeq (tAsg te (gName i)) u D' σ H := s_setP (D' := { D' with nx := u D' }) e h k
theorem q_setL {P : List D → Prop} (e : En r H σ G) (h : El r te G P) (k : ∀ p ds σ' H', H p = none → some p ≠ r → P ds → En r H' σ' (G.set i (.lst p ds)) → Kp r H H' → u D' σ' H') : tSeq (tAsg te (gName i)) u D' σ H := s_setL (D' := { D' with nx := u D' }) e h k
theorem q_par {s1 s2 : Sl} (e : En r H σ G) (h : Ea r ta G (fun x => x = [s1, s2])) (k : ∀ σ' H', En r H' σ' ((G.set i s1).set j s2) → Kp r H H' → u D' σ' H') : tSeq (tPar i j ta) u D' σ H := s_par (D' := { D' with nx := u D' }) e h k
theorem q_parP {PP : Sl → Sl → Prop} (e : En r H σ G) (h : Ea r ta G (fun x => ∃ s1 s2, x = [s1, s2] ∧ PP s1 s2)) (k : ∀ s1 s2 σ' H', PP s1 s2 → En r H' σ' ((G.set i s1).set j s2) → Kp r H H' → u D' σ' H') : tSeq (tPar i j ta) u D' σ H := s_parP (D' := { D' with nx := u D' }) e h k
theorem q_two {d1 d2 : D} (e : En r H σ G) (h : Ed r te G (.tup [d1, d2])) (k : ∀ σ' H', En r H' σ' ((G.set i (.dat d1)).set j (.dat d2)) → Kp r H H' → u D' σ' H') : tSeq (tAsg te (gTup K 2 (gCons (gName i) (gCons (gName j) gNil)))) u D' σ H := s_two (D' := { D' with nx := u D' }) e h k
theorem q_three {d1 d2 d3 : D} {l : Nat} (e : En r H σ G) (h : Ed r te G (.tup [d1, d2, d3])) (k : ∀ σ' H', En r H' σ' (((G.set i (.dat d1)).set j (.dat d2)).set l (.dat d3)) → Kp r H H' → u D' σ' H') : tSeq (tAsg te (gTup K 3 (gCons (gName i) (gCons (gName j) (gCons (gName l) gNil))))) u D' σ H := s_three (D' := { D' with nx := u D' }) e h k
theorem q_twoS {P2 : Sl → Sl → Prop} (e : En r H σ G) (h : Ev r te G (fun s => ∃ s1 s2, s = .tl [s1, s2] ∧ P2 s1 s2)) (k : ∀ s1 s2 σ' H', P2 s1 s2 → En r H' σ' ((G.set i s1).set j s2) → Kp r H H' → u D' σ' H') : tSeq (tAsg te (gTup K 2 (gCons (gName i) (gCons (gName j) gNil)))) u D' σ H := s_twoS (D' := { D' with nx := u D' }) e h k
theorem q_if {b : Bool} (e : En r H σ G) (h : Eb r tt G b) (k1 : b = true → ∀ H', En r H' σ G → Kp r H H' → t1 { D' with nx := u D' } σ H') (k2 : b = false → ∀ H', En r H' σ G → Kp r H H' → t2 { D' with nx := u D' } σ H') : tSeq (tIfS tt t1 t2) u D' σ H := s_ifB e h k1 k2
/-- if without else -/
theorem q_if0 {b : Bool} (e : En r H σ G) (h : Eb r tt G b) (k1 : b = true → ∀ H', En r H' σ G → Kp r H H' → t1 { D' with nx := u D' } σ H') (k2 : b = false → ∀ H', En r H' σ G → Kp r H H' → u D' σ H') : tSeq (tIfS tt t1 tNext) u D' σ H := s_ifB e h k1 k2
theorem q_ifP {P : Bool → Prop} (e : En r H σ G) (h : Et r tt G P) (k1 : P true → ∀ H', En r H' σ G → Kp r H H' → t1 { D' with nx := u D' } σ H') (k2 : P false → ∀ H', En r H' σ G → Kp r H H' → u D' σ H') : tSeq (tIfS tt t1 tNext) u D' σ H := s_if e h k1 k2
theorem q_pass (e : En r H σ G) (h : Eb r tt G false) (k : ∀ H', En r H' σ G → Kp r H H' → u D' σ H') : tSeq (tIfS tt t1 tNext) u D' σ H := s_ifF e h k
theorem q_take (e : En r H σ G) (h : Eb r tt G true) (k : ∀ H', En r H' σ G → Kp r H H' → t1 { D' with nx := u D' } σ H') : tSeq (tIfS tt t1 t2) u D' σ H := s_ifT e h k
theorem q_drop (e : En r H σ G) (h : Ev r te G P) (k : ∀ H', En r H' σ G → Kp r H H' → u D' σ H') : tSeq (tDrop te) u D' σ H := s_drop (D' := { D' with nx := u D' }) e h k
theorem q_app {a : Addr} {ds : List D} {d : D} (e : En r H σ G) (hg : G[i]? = some (.lst a ds)) (h : Ed r te G d) (hl : ds.length < 100000) (hal : noAl a (G.set i .any)) (k0 : Kp r H0 H) (h0 : H0 a = none)
    (k : ∀ H', En r H' σ (G.set i (.lst a (ds ++ [d]))) → Kp r H0 H' → Kx H H' → u D' σ H') : tSeq (tDrop (tBM K "list" rAppend (tVar i) (tCons te tNil))) u D' σ H := s_app (D' := { D' with nx := u D' }) e hg h hl hal k0 h0 k
theorem q_setIx {a : Addr} {ds : List D} {d : D} {m : Nat} {ti : TE} (e : En r H σ G) (hg : G[i]? = some (.lst a ds)) (h : Ed r te G d) (hi : Ed r ti G (.int m)) (hm : m < ds.length) (hal : noAl a (G.set i .any)) (k0 : Kp r H0 H) (h0 : H0 a = none)
    (k : ∀ H', En r H' σ (G.set i (.lst a (ds.set m d))) → Kp r H0 H' → Kx H H' → u D' σ H') : tSeq (tAsg te (gSub (tVar i) ti rSetL)) u D' σ H := s_setIx (D' := { D' with nx := u D' }) e hg h hi hm hal k0 h0 k
theorem ed_isa {d : D} {ty n : String} {b : Bool} (h : Ed r te G d) (ht : d.tyn = ty) (hb : kitB ty n = some b) (hd : ty ≠ "dict" := by decide) : Ed r (tCB (rIsi K) (tCons te (tCons (tC (.ty n)) tNil))) G (.bl b) := by
  subst ht
  exact ed_isi h hb hd
theorem ed_isI {v : Int} {n : String} {b : Bool} (h : Ed r te G (.int v)) (hb : kitB "int" n = some b) : Ed r (tCB (rIsi K) (tCons te (tCons (tC (.ty n)) tNil))) G (.bl b) := ed_isa (ty := "int") h rfl hb
theorem ed_isT {v : List D} {n : String} {b : Bool} (h : Ed r te G (.tup v)) (hb : kitB "tuple" n = some b) : Ed r (tCB (rIsi K) (tCons te (tCons (tC (.ty n)) tNil))) G (.bl b) := ed_isa (ty := "tuple") h rfl hb
theorem ed_isS {v : Str} {n : String} {b : Bool} (h : Ed r te G (.str v)) (hb : kitB "str" n = some b) : Ed r (tCB (rIsi K) (tCons te (tCons (tC (.ty n)) tNil))) G (.bl b) := ed_isa (ty := "str") h rfl hb
/-- take's draw -/
theorem ev_imp_d {PD PE : D → Prop} (h : Ev r te G (fun s => ∃ d, s = .dat d ∧ PD d)) (i : ∀ d, PD d → PE d) : Ev r te G (fun s => ∃ d, s = .dat d ∧ PE d) := h.imp fun s ⟨d, e, p⟩ => ⟨d, e, i d p⟩
end
end Zk

-- part ZScope
namespace Zk
open PySem PySem.Spec PyProof.Rows L2 Zb Zr Zm
theorem sc_is_integer : FnScope ["thing"] ["thing"] (defScope s_is_integer) := ⟨rfl, rfl, rfl, by decide +kernel, rfl, by decide +kernel, by decide +kernel⟩
theorem sc_common_divisor : FnScope ["one", "other"] ["one", "other"] (defScope s_common_divisor) := ⟨rfl, rfl, rfl, by decide +kernel, rfl, by decide +kernel, by decide +kernel⟩
theorem sc_is_quotient : FnScope ["thing", "top", "bottom"] ["thing"] (defScope s_is_quotient) := ⟨rfl, rfl, rfl, by decide +kernel, rfl, by decide +kernel, by decide +kernel⟩
theorem sc_is_point : FnScope ["size", "thing", "entry"] ["size", "thing"] (defScope s_is_point) := ⟨rfl, rfl, rfl, by decide +kernel, rfl, by decide +kernel, by decide +kernel⟩
theorem sc_is_plain : FnScope ["program", "line"] ["program"] (defScope s_is_plain) := ⟨rfl, rfl, rfl, by decide +kernel, rfl, by decide +kernel, by decide +kernel⟩
theorem sc_lowest_terms : FnScope ["top", "bottom", "shared"] ["top", "bottom"] (defScope s_lowest_terms) := ⟨rfl, rfl, rfl, by decide +kernel, rfl, by decide +kernel, by decide +kernel⟩
theorem sc_plus : FnScope ["one", "other"] ["one", "other"] (defScope s_plus) := ⟨rfl, rfl, rfl, by decide +kernel, rfl, by decide +kernel, by decide +kernel⟩
theorem sc_minus : FnScope ["one", "other"] ["one", "other"] (defScope s_minus) := ⟨rfl, rfl, rfl, by decide +kernel, rfl, by decide +kernel, by decide +kernel⟩
theorem sc_times : FnScope ["one", "other"] ["one", "other"] (defScope s_times) := ⟨rfl, rfl, rfl, by decide +kernel, rfl, by decide +kernel, by decide +kernel⟩
theorem sc_number_by : FnScope ["word", "one", "other"] ["word", "one", "other"] (defScope s_number_by) := ⟨rfl, rfl, rfl, by decide +kernel, rfl, by decide +kernel, by decide +kernel⟩
theorem sc_carried_all : FnScope ["program", "size", "lines", "lots", "numbers", "line", "word", "one", "other", "lot", "which"] ["program"] (defScope s_carried_all) := ⟨rfl, rfl, rfl, by decide +kernel, rfl, by decide +kernel, by decide +kernel⟩
theorem sc_carried_of : FnScope ["program", "lots", "_"] ["program"] (defScope s_carried_of) := ⟨rfl, rfl, rfl, by decide +kernel, rfl, by decide +kernel, by decide +kernel⟩
theorem sc_numbers_of : FnScope ["program", "_", "numbers"] ["program"] (defScope s_numbers_of) := ⟨rfl, rfl, rfl, by decide +kernel, rfl, by decide +kernel, by decide +kernel⟩
theorem sc_counting_of : FnScope ["program", "size", "lines", "_", "numbers", "counts", "k", "word", "one", "other", "place", "beside"] ["program"] (defScope s_counting_of) := ⟨rfl, rfl, rfl, by decide +kernel, rfl, by decide +kernel, by decide +kernel⟩
theorem sc_mix_value : FnScope ["line", "found", "_", "reads", "numbers", "left", "place", "at"] ["line", "found"] (defScope s_mix_value) := ⟨rfl, rfl, rfl, by decide +kernel, rfl, by decide +kernel, by decide +kernel⟩
theorem sc_line_value : FnScope ["line", "found", "one", "other"] ["line", "found"] (defScope s_line_value) := ⟨rfl, rfl, rfl, by decide +kernel, rfl, by decide +kernel, by decide +kernel⟩
theorem sc_run_lines : FnScope ["program", "point", "size", "lines", "found", "line"] ["program", "point"] (defScope s_run_lines) := ⟨rfl, rfl, rfl, by decide +kernel, rfl, by decide +kernel, by decide +kernel⟩
theorem sc_law_row : FnScope ["_law_script", "_law_row_here", "_law_cell", "_law_left", "_law_turn", "_law_one", "_law_place_here"] ["_law_script"] (defScope s_law_row) := ⟨rfl, rfl, rfl, by decide +kernel, rfl, by decide +kernel, by decide +kernel⟩
theorem sc_law_take : FnScope ["_law_row_here", "_law_many"] ["_law_row_here", "_law_many"] (defScope s_law_take) := ⟨rfl, rfl, rfl, by decide +kernel, rfl, by decide +kernel, by decide +kernel⟩
theorem sc_law_lowest : FnScope ["_law_top", "_law_bottom", "_law_left", "_law_right", "_law_turn"] ["_law_top", "_law_bottom"] (defScope s_law_lowest) := ⟨rfl, rfl, rfl, by decide +kernel, rfl, by decide +kernel, by decide +kernel⟩
theorem sc_law_added : FnScope ["_law_one", "_law_other", "_law_sign"] ["_law_one", "_law_other", "_law_sign"] (defScope s_law_added) := ⟨rfl, rfl, rfl, by decide +kernel, rfl, by decide +kernel, by decide +kernel⟩
theorem sc_law_product : FnScope ["_law_one", "_law_other"] ["_law_one", "_law_other"] (defScope s_law_product) := ⟨rfl, rfl, rfl, by decide +kernel, rfl, by decide +kernel, by decide +kernel⟩
theorem sc_law_quotient : FnScope ["_law_row_here", "_law_top"] ["_law_row_here"] (defScope s_law_quotient) := ⟨rfl, rfl, rfl, by decide +kernel, rfl, by decide +kernel, by decide +kernel⟩
theorem sc_law_place : FnScope ["_law_row_here", "_law_places"] ["_law_row_here", "_law_places"] (defScope s_law_place) := ⟨rfl, rfl, rfl, by decide +kernel, rfl, by decide +kernel, by decide +kernel⟩
theorem sc_law_line : FnScope ["_law_row_here", "_law_places", "_law_voids", "_law_kind", "_law_one", "_law_other", "_law_word"] ["_law_row_here", "_law_places", "_law_voids"] (defScope s_law_line) := ⟨rfl, rfl, rfl, by decide +kernel, rfl, by decide +kernel, by decide +kernel⟩
theorem sc_law_plainer : FnScope ["_law_row_here", "_law_size", "_law_place_here"] ["_law_row_here", "_law_size", "_law_place_here"] (defScope s_law_plainer) := ⟨rfl, rfl, rfl, by decide +kernel, rfl, by decide +kernel, by decide +kernel⟩
theorem sc_law_joined : FnScope ["_law_line_here", "_law_one", "_law_other", "_law_copies", "_law_form_here", "_law_many", "_law_bundle", "_law_moved", "_law_value", "_law_more", "_law_copy"] ["_law_line_here", "_law_one", "_law_other"] (defScope s_law_joined) := ⟨rfl, rfl, rfl, by decide +kernel, rfl, by decide +kernel, by decide +kernel⟩
theorem sc_law_number : FnScope ["_law_quotient_here"] ["_law_quotient_here"] (defScope s_law_number) := ⟨rfl, rfl, rfl, by decide +kernel, rfl, by decide +kernel, by decide +kernel⟩
theorem sc_law_form : FnScope ["_law_line_here", "_law_forms", "_law_one", "_law_other", "_law_joined_here", "_law_bundle"] ["_law_line_here", "_law_forms"] (defScope s_law_form) := ⟨rfl, rfl, rfl, by decide +kernel, rfl, by decide +kernel, by decide +kernel⟩
theorem sc_law_stand : FnScope ["_law_size", "_law_form_here", "_law_there", "_law_bundle", "_law_copy", "_law_which"] ["_law_size", "_law_form_here"] (defScope s_law_stand) := ⟨rfl, rfl, rfl, by decide +kernel, rfl, by decide +kernel, by decide +kernel⟩
theorem sc_law_short : FnScope ["_law_row_here", "_law_size", "_law_many", "_law_lines", "_law_forms", "_law_k", "_law_line_here", "_law_form_here", "_law_lots", "_law_numbers", "_law_at", "_law_which", "_law_place_here"] ["_law_row_here", "_law_size", "_law_many"] (defScope s_law_short) := ⟨rfl, rfl, rfl, by decide +kernel, rfl, by decide +kernel, by decide +kernel⟩
theorem sc_law_step : FnScope ["_law_line_here", "_law_lots", "_law_numbers", "_law_bits", "_law_one", "_law_other", "_law_top", "_law_bottom", "_law_lot", "_law_which"] ["_law_line_here", "_law_lots", "_law_numbers", "_law_bits"] (defScope s_law_step) := ⟨rfl, rfl, rfl, by decide +kernel, rfl, by decide +kernel, by decide +kernel⟩
theorem sc_law_long : FnScope ["_law_row_here", "_law_size", "_law_many", "_law_lines", "_law_lots", "_law_numbers", "_law_bits", "_law_k", "_law_line_here", "_law_step_here", "_law_which", "_law_number_here", "_law_place_here"] ["_law_row_here", "_law_size", "_law_many"] (defScope s_law_long) := ⟨rfl, rfl, rfl, by decide +kernel, rfl, by decide +kernel, by decide +kernel⟩
theorem sc_law_counting : FnScope ["_law_size", "_law_lines", "_law_nought", "_law_counted", "_law_k", "_law_line_here", "_law_at", "_law_there", "_law_one", "_law_other"] ["_law_size", "_law_lines", "_law_nought"] (defScope s_law_counting) := ⟨rfl, rfl, rfl, by decide +kernel, rfl, by decide +kernel, by decide +kernel⟩
theorem sc_law_same : FnScope ["_law_told", "_law_due", "_law_one", "_law_other"] ["_law_told", "_law_due"] (defScope s_law_same) := ⟨rfl, rfl, rfl, by decide +kernel, rfl, by decide +kernel, by decide +kernel⟩
theorem sc_law_stays : FnScope ["_law_row_here", "_law_program", "_law_carried", "_law_numbers", "_law_which", "_law_point", "_law_top", "_law_moved", "_law_one", "_law_other", "_law_k", "_law_number_here"] ["_law_row_here", "_law_program", "_law_carried", "_law_numbers"] (defScope s_law_stays) := ⟨rfl, rfl, rfl, by decide +kernel, rfl, by decide +kernel, by decide +kernel⟩
theorem sc_law_ask : FnScope ["_law_word", "_law_program", "error"] ["_law_word", "_law_program"] (defScope s_law_ask) := ⟨rfl, rfl, rfl, by decide +kernel, rfl, by decide +kernel, by decide +kernel⟩
theorem sc_law_mixed : FnScope ["_law_row_here", "_law_program", "_law_mix", "_law_lines", "_law_word"] ["_law_row_here", "_law_program"] (defScope s_law_mixed) := ⟨rfl, rfl, rfl, by decide +kernel, rfl, by decide +kernel, by decide +kernel⟩
theorem sc_law : FnScope ["_law_script", "_law_row_here", "_law_size", "_law_many", "_law_lines", "_law_lots", "_law_numbers", "_law_nought", "_law_program", "_law_carried", "_law_counting_here", "_law_turn"] ["_law_script"] (defScope s_law) := ⟨rfl, rfl, rfl, by decide +kernel, rfl, by decide +kernel, by decide +kernel⟩
end Zk

-- part ZQ
namespace Zk
open PySem PySem.Spec PyProof.Rows L2 Zb Zr Zm
local macro_rules | `(tactic| trivial) => `(tactic| first
  | with_reducible exact ed_int | with_reducible exact ed_str | with_reducible exact ed_bl | with_reducible exact ed_non | exact ed_var rfl
  | (with_reducible refine ed_neg ?_; trivial)
  | (with_reducible refine ed_i ?_ ?_ <;> trivial)
  | (with_reducible refine ed_c ?_ ?_ <;> trivial))
/-! contracts -/
abbrev CA := Option Addr → List Sl → (Sl → Prop) → Prop
def A_is_integer : CA := fun _ ss P => ∃ i, ss = [.dat (.int i)] ∧ P = fun s => s = .dat (.bl true)
def A_common_divisor : CA := fun _ ss P => ∃ a b, ss = [.dat (.int a), .dat (.int b)] ∧ P = fun s => s = .dat (.int (Int.gcd a b : Int))
def A_is_quotient : CA := fun _ ss P => ∃ q, ss = [.dat (qD q)] ∧ QOk q ∧ P = fun s => s = .dat (.bl true)
section
variable {P : Program} {w : World} {K : PySem.W.Frag} {mg : Str → Option Value} {base : Heap} (T : Txt K mg)
include T
theorem ok_is_integer : Cl P w K mg base 1 "is_integer" (Con 1 A_is_integer) := by
  refine mkCl T.d_is_integer sc_is_integer (fun _ _ _ _ _ _ us hl => match us, hl with | [_], _ => rfl) Con.len (fun f cdv A outer s H vs Q E hr h => ?_)
  obtain ⟨r, ss, PP, hl, ⟨i, rfl, rfl⟩, hv, rk, hq⟩ := h
  have en := En.start (N := ["thing"]) hv rk
  refine ⟨_, (pss_one (ps_ret (pe_and (pe_callB call_isi (by rfl) T.b_isinstance (by decide +kernel) (pa_cons (pv 0) (pa_cons (pe_bltn (v := .ty "int") (u := .type "int") (by rfl) T.b_int (by decide +kernel) rfl) pa_nil))) (pe_one (pe_not (pe_callB call_isi (by rfl) T.b_isinstance (by decide +kernel) (pa_cons (pv 0) (pa_cons (pe_bltn (v := .ty "bool") (u := .type "bool") (by rfl) T.b_bool (by decide +kernel) rfl) pa_nil)))))))), ?_⟩
  refine s_ret en (ed_andV (ed_isI (b := true) (ed_var rfl) (by decide +kernel)) fun _ => ed_notV (ed_isI (b := false) (ed_var rfl) (by decide +kernel))) fun v H' s k sv p => hq v H' s k sv p
theorem ok_common_divisor : Cl P w K mg base 1 "_common_divisor" (Con 2 A_common_divisor) := by
  refine mkCl T.d_common_divisor sc_common_divisor (fun _ _ _ _ _ _ us hl => match us, hl with | [_, _], _ => rfl) Con.len (fun f cdv A outer s H vs Q E hr h => ?_)
  obtain ⟨r, ss, PP, hl, ⟨a, b, rfl, rfl⟩, hv, rk, hq⟩ := h
  have en := En.start (N := ["one", "other"]) hv rk
  refine ⟨_, (pss_cons (ps_par (i := 0) (j := 1) rfl sc_common_divisor.nd rfl rfl (by decide) rfl rfl (pa_cons (pe_callB call_abs (by rfl) T.b_abs (by decide +kernel) (pa_cons (pv 0) pa_nil)) (pa_cons (pe_callB call_abs (by rfl) T.b_abs (by decide +kernel) (pa_cons (pv 1) pa_nil)) pa_nil)) (by rfl)) (pss_cons (ps_while PassesOwn.never (pt_cmpR op_ne (pv 1) pe_int (nomark _)) (pss_one (ps_par (i := 0) (j := 1) rfl sc_common_divisor.nd rfl rfl (by decide) rfl rfl (pa_cons (pv 1) (pa_cons (pe_op op_mod (pv 0) (pv 1)) pa_nil)) (by rfl)))) (pss_one (ps_ret (pv 0))))), ?_⟩
  refine (q_par en (ea_c (ed_abs (by trivial)) (ea_c (ed_abs (by trivial)) ea_nil)) fun σ1 H1 en k1 => ?_)
  refine q_seq (s_while (r := r) (fun m σ' H' => ∃ l n : Nat, En r H' σ' [.dat (.int l), .dat (.int n)] ∧ Kp r H H' ∧ Nat.gcd l n = Int.gcd a b ∧ m = n) b.natAbs ⟨_, _, en, k1, rfl, rfl⟩ ?_)
  rintro m σ' H' ⟨l, n, en, k, hg, rfl⟩
  refine ⟨_, _, en, eb_test (ed_neI (by trivial) (by trivial)), fun hb H2 en k2 => ?_, fun hb H2 en k2 => ?_⟩
  · have hn : m ≠ 0 := by
      intro z
      subst z
      simp at hb
    refine s_par en (ea_c (by trivial) (ea_c (ed_iC (f := fun i j => i % j) (by trivial) (by trivial) (show (0 : Int) < m by omega)) ea_nil)) fun σ3 H3 en k3 => ?_
    refine ⟨l % m, Nat.mod_lt _ (by omega), m, l % m, ?_, (k.trans k2).trans k3, ?_, rfl⟩
    · have e : ((l : Int) % (m : Int)) = ((l % m : Nat) : Int) := rfl
      exact en
    · rw [← hg, Nat.gcd_comm l m, Nat.gcd_rec m l, Nat.gcd_comm]
  · have hn : m = 0 := by
      by_cases z : m = 0
      · exact z
      · simp [z] at hb
    subst hn
    refine s_ret en (ed_var rfl) fun v H' s k3 sv p => hq v H' s ((k.trans k2).trans k3) sv ?_
    rw [p, ← hg, Nat.gcd_zero_right]
theorem ok_is_quotient (c_is_integer : Cl P w K mg base 1 "is_integer" (Con 1 A_is_integer)) (c_common_divisor : Cl P w K mg base 1 "_common_divisor" (Con 2 A_common_divisor)) : Cl P w K mg base 2 "is_quotient" (Con 1 A_is_quotient) := by
  refine mkCl T.d_is_quotient sc_is_quotient (fun _ _ _ _ _ _ us hl => match us, hl with | [_], _ => rfl) Con.len (fun f cdv A outer s H vs Q E hr h => ?_)
  obtain ⟨r, ss, PP, hl, ⟨q, rfl, hok, rfl⟩, hv, rk, hq⟩ := h
  have en := En.start (N := ["thing", "top", "bottom"]) hv rk
  refine ⟨_, (pss_cons (ps_if (PW.pt (pw_or (pt_not (pt_val (pe_callB call_isi (by rfl) T.b_isinstance (by decide +kernel) (pa_cons (pv 0) (pa_cons (pe_bltn (v := .ty "tuple") (u := .type "tuple") (by rfl) T.b_tuple (by decide +kernel) rfl) pa_nil))))) (pw_or1 (pt_cmpR op_ne (pe_callB (r := cLen K) call_len_seq (by rfl) T.b_len (by decide +kernel) (pa_cons (pv 0) pa_nil)) pe_int (nomark _))))) (pss_one (ps_ret pe_bl)) pss_nil) (pss_cons (ps_asg (pv 0) (pg_tup (n := 2) rfl (pgs_cons (pg_name (i := 1) sc_is_quotient.nd rfl (Or.inl rfl)) (pgs_cons (pg_name (i := 2) sc_is_quotient.nd rfl (Or.inl rfl)) pgs_nil)))) (pss_cons (ps_if (PW.pt (pw_or (pt_not (pt_val (pe_cl c_is_integer hr (by decide) rfl (pa_cons (pv 1) pa_nil)))) (pw_or (pt_not (pt_val (pe_cl c_is_integer hr (by decide) rfl (pa_cons (pv 2) pa_nil)))) (pw_or1 (pt_cmpR op_lt (pv 2) pe_int (nomark _)))))) (pss_one (ps_ret pe_bl)) pss_nil) (pss_one (ps_ret (pe_or (pe_cmpR op_eq (pv 2) pe_int (nomark _)) (pe_one (pe_cmpR op_eq (pe_cl c_common_divisor hr (by decide) rfl (pa_cons (pv 1) (pa_cons (pv 2) pa_nil))) pe_int (nomark _))))))))), ?_⟩
  refine (q_pass en ((eb_or (eb_not (eb_B (ed_isT (v := [.int q.1, .int q.2]) (b := true) (ed_var rfl) (by decide +kernel)))) fun _ => eb_test (ed_neI (ed_lenT (ds := [.int q.1, .int q.2]) (by trivial)) (by trivial))).is (by simp)) fun H1 en k1 => ?_)
  refine (q_two (d1 := .int q.1) (d2 := .int q.2) en (by trivial) fun σ2 H2 en k2 => ?_)
  have hp := hok.1
  refine (q_pass en ((eb_or (eb_not (eb_B (ev_call' (ss := [.dat (.int q.1)]) (ea_c (by trivial) ea_nil) ⟨_, rfl, rfl⟩))) fun _ => eb_or (eb_not (eb_B (ev_call' (ss := [.dat (.int q.2)]) (ea_c (by trivial) ea_nil) ⟨_, rfl, rfl⟩))) fun _ => eb_test (ed_c (ed_var rfl) ed_int)).is (by simp; omega)) fun H3 en k3 => ?_)
  refine s_ret en (ed_orV (ed_eqI (by trivial) (by trivial)) fun _ => ed_eqI (ev_call' (ss := [.dat (.int q.1), .dat (.int q.2)]) (ea_c (by trivial) (ea_c (by trivial) ea_nil)) ⟨_, _, rfl, rfl⟩) (by trivial)) fun v H' s k sv p => hq v H' s ((k1.trans k2).trans (k3.trans k)) sv ?_
  rw [p, hok.2]
  simp
end
end Zk

-- part ZMathB
/-! What lines carry, in plain Lean. -/
namespace Zk
open Zm
/-- strictly rising lists with the same members -/
theorem rise_ext : ∀ {a b : List Nat}, a.Pairwise (· < ·) → b.Pairwise (· < ·) → (∀ k, k ∈ a ↔ k ∈ b) → a = b
  | [], [], _, _, _ => rfl
  | [], y :: b, _, _, h => absurd ((h y).mpr (List.mem_cons_self ..)) (by simp)
  | x :: a, [], _, _, h => absurd ((h x).mp (List.mem_cons_self ..)) (by simp)
  | x :: a, y :: b, ha, hb, h => by
    rw [List.pairwise_cons] at ha hb
    have exy : x = y := by
      rcases List.mem_cons.mp ((h x).mp (List.mem_cons_self ..)) with e | e
      · exact e
      · rcases List.mem_cons.mp ((h y).mpr (List.mem_cons_self ..)) with f | f
        · exact f.symm
        · have := hb.1 x e
          have := ha.1 y f
          omega
    subst exy
    rw [rise_ext ha.2 hb.2 fun k => ?_]
    constructor
    · intro hk
      rcases List.mem_cons.mp ((h k).mp (List.mem_cons_of_mem _ hk)) with e | e
      · subst e
        exact absurd (ha.1 k hk) (by omega)
      · exact e
    · intro hk
      rcases List.mem_cons.mp ((h k).mpr (List.mem_cons_of_mem _ hk)) with e | e
      · subst e
        exact absurd (hb.1 k hk) (by omega)
      · exact e
theorem rise_len0 {n : Nat} : ∀ {l : List Nat} {m : Nat}, l.Pairwise (· < ·) → (∀ k ∈ l, m ≤ k ∧ k < n) → l.length + m ≤ max n m
  | [], m, _, _ => by simp; omega
  | x :: l, m, h, hk => by
    rw [List.pairwise_cons] at h
    have hx := hk x (List.mem_cons_self ..)
    have := rise_len0 (l := l) (m := x + 1) h.2 fun k hk' => ⟨h.1 k hk', (hk k (List.mem_cons_of_mem _ hk')).2⟩
    rw [List.length_cons]
    omega
theorem rise_len {n : Nat} {l : List Nat} (h : l.Pairwise (· < ·)) (hk : ∀ k ∈ l, k < n) : l.length ≤ n := by
  have := rise_len0 (m := 0) h fun k hk' => ⟨Nat.zero_le _, hk k hk'⟩
  omega
theorem rise_range (n : Nat) (f : Nat → Bool) : ((List.range n).filter f).Pairwise (· < ·) := List.Pairwise.filter _ List.pairwise_lt_range
def un (a b : List Nat) : List Nat := (List.range 8).filter fun k => decide (k ∈ a) || decide (k ∈ b)
theorem mem_un {a b : List Nat} {k : Nat} : k ∈ un a b ↔ k < 8 ∧ (k ∈ a ∨ k ∈ b) := by
  unfold un
  rw [List.mem_filter, List.mem_range, Bool.or_eq_true, decide_eq_true_eq, decide_eq_true_eq]
theorem un_rise (a b : List Nat) : (un a b).Pairwise (· < ·) := rise_range _ _
theorem nil_iff {l : List Nat} : l = [] ↔ ∀ k, k ∉ l := List.eq_nil_iff_forall_not_mem
theorem un_nil {a b : List Nat} (ha : ∀ k ∈ a, k < 8) (hb : ∀ k ∈ b, k < 8) : un a b = [] ↔ a = [] ∧ b = [] := by
  rw [nil_iff, nil_iff, nil_iff]
  constructor
  · intro h
    exact ⟨fun k hk => h k (mem_un.mpr ⟨ha k hk, .inl hk⟩), fun k hk => h k (mem_un.mpr ⟨hb k hk, .inr hk⟩)⟩
  · rintro ⟨h1, h2⟩ k hk
    rcases (mem_un.mp hk).2 with h | h
    · exact h1 k h
    · exact h2 k h
/-- what a line carries, its number -/
def isZ (o : Option Qt) : Bool := decide (o = some (0, 1))
def cop (w : Wd) (a b : List Nat × Option Qt) : List Nat × Option Qt :=
  if w = .mul ∧ (isZ a.2 = true ∨ isZ b.2 = true) then ([], some (0, 1)) else (un a.1 b.1, if un a.1 b.1 = [] then some (qop w (a.2.getD (0, 1)) (b.2.getD (0, 1))) else none)
abbrev Cs := List (List Nat) × List (Option Qt)
def Cs.at (s : Cs) (i : Nat) : List Nat × Option Qt := (s.1.getD i [], s.2.getD i none)
def cst (s : Cs) : Ln → List Nat × Option Qt
  | .num q => ([], some q)
  | .op w a b => cop w (s.at a) (s.at b)
def cend (s : Cs) (l : Ln) : Cs := (s.1 ++ [(cst s l).1], s.2 ++ [(cst s l).2])
def c0 (n : Nat) : Cs := ((List.range n).map fun k => [k], List.replicate n none)
def call (n : Nat) (ls : List Ln) : Cs := ls.foldl cend (c0 n)
theorem call_snoc (n : Nat) (ls : List Ln) (l : Ln) : call n (ls ++ [l]) = cend (call n ls) l := by simp [call, List.foldl_append]
/-- right lines, one behind the other -/
inductive Rn (n : Nat) : List Ln → Prop
  | nil : Rn n []
  | snoc {ls : List Ln} {l : Ln} : Rn n ls → LnOk (n + ls.length) l → Rn n (ls ++ [l])
theorem Rn.get {n : Nat} {ls : List Ln} (h : Rn n ls) : ∀ {i : Nat} {l : Ln}, ls[i]? = some l → LnOk (n + i) l := by
  induction h with
  | nil => intro i l e; simp at e
  | snoc h1 h2 ih =>
    rename_i ls l0
    intro i l e
    rcases Nat.lt_or_ge i ls.length with hi | hi
    · rw [List.getElem?_append_left hi] at e
      exact ih e
    · rw [List.getElem?_append_right hi] at e
      have : i - ls.length = 0 := by
        have := (List.getElem?_eq_some_iff.mp e).1
        simp at this
        omega
      rw [this] at e
      simp at e
      subst e
      have : i = ls.length := by omega
      rw [this]
      exact h2
theorem Rn.take {n : Nat} {ls : List Ln} (h : Rn n ls) (k : Nat) : Rn n (ls.take k) := by
  induction h with
  | nil => simp; exact .nil
  | snoc h1 h2 ih =>
    rename_i ls l0
    rcases Nat.lt_or_ge ls.length k with hk | hk
    · rw [List.take_of_length_le (by simp; omega)]
      exact .snoc h1 h2
    · rw [List.take_append_of_le_length hk]
      exact ih
theorem take_snoc {α : Type} {l : List α} {i : Nat} {x : α} (h : l[i]? = some x) : l.take (i + 1) = l.take i ++ [x] := by
  rw [List.take_add_one, h]
  rfl
structure CI (n m : Nat) (s : Cs) : Prop where
  l1 : s.1.length = m
  l2 : s.2.length = m
  ri : ∀ l ∈ s.1, l.Pairwise (· < ·) ∧ ∀ k ∈ l, k < n
  sm : ∀ i, i < m → ((s.at i).1 = [] ↔ (s.at i).2.isSome = true)
  ok : ∀ q, some q ∈ s.2 → QOk q
theorem getD_mem {α : Type} {l : List α} {i : Nat} {d : α} (h : i < l.length) : l.getD i d ∈ l := by
  rw [List.getD_eq_getElem?_getD, List.getElem?_eq_getElem h]
  exact List.getElem_mem h
theorem getD_app_left {α : Type} {l m : List α} {i : Nat} {d : α} (h : i < l.length) : (l ++ m).getD i d = l.getD i d := by
  rw [List.getD_eq_getElem?_getD, List.getD_eq_getElem?_getD, List.getElem?_append_left h]
theorem getD_app_last {α : Type} {l : List α} {x d : α} : (l ++ [x]).getD l.length d = x := by
  rw [List.getD_eq_getElem?_getD, List.getElem?_append_right (Nat.le_refl _), Nat.sub_self]
  rfl
theorem CI.lot {n m : Nat} {s : Cs} (h : CI n m s) {i : Nat} (hi : i < m) : (s.at i).1.Pairwise (· < ·) ∧ ∀ k ∈ (s.at i).1, k < n := h.ri _ (getD_mem (by rw [h.l1]; exact hi))
theorem CI.qok {n m : Nat} {s : Cs} (h : CI n m s) {i : Nat} (hi : i < m) {q : Qt} (e : (s.at i).2 = some q) : QOk q := h.ok q (by rw [← e]; exact getD_mem (by rw [h.l2]; exact hi))
theorem cop_ok {w : Wd} {n : Nat} {a b : List Nat × Option Qt} (hn : n ≤ 8) (ha : ∀ k ∈ a.1, k < n) (hb : ∀ k ∈ b.1, k < n) (ea : a.1 = [] ↔ a.2.isSome = true) (eb : b.1 = [] ↔ b.2.isSome = true) (qa : ∀ q, a.2 = some q → QOk q) (qb : ∀ q, b.2 = some q → QOk q) :
    ((cop w a b).1.Pairwise (· < ·) ∧ ∀ k ∈ (cop w a b).1, k < n) ∧ ((cop w a b).1 = [] ↔ (cop w a b).2.isSome = true) ∧ ∀ q, (cop w a b).2 = some q → QOk q := by
  unfold cop
  split
  · exact ⟨⟨.nil, fun k hk => nomatch hk⟩, by simp, fun q e => by cases e; exact qok_zero⟩
  · refine ⟨⟨un_rise _ _, fun k hk => ?_⟩, ?_, fun q e => ?_⟩
    · rcases (mem_un.mp hk).2 with h | h
      · exact ha k h
      · exact hb k h
    · show un a.1 b.1 = [] ↔ _
      by_cases h : un a.1 b.1 = []
      · simp [h]
      · simp [h]
    · by_cases h : un a.1 b.1 = []
      · obtain ⟨h1, h2⟩ := (un_nil (fun k hk => Nat.lt_of_lt_of_le (ha k hk) hn) fun k hk => Nat.lt_of_lt_of_le (hb k hk) hn).mp h
        have e' : some (qop w (a.2.getD (0, 1)) (b.2.getD (0, 1))) = some q := by
          rw [← e]
          show _ = (if un a.1 b.1 = [] then some (qop w (a.2.getD (0, 1)) (b.2.getD (0, 1))) else none)
          rw [if_pos h]
        cases e'
        obtain ⟨x, hx⟩ := Option.isSome_iff_exists.mp (ea.mp h1)
        obtain ⟨y, hy⟩ := Option.isSome_iff_exists.mp (eb.mp h2)
        rw [hx, hy]
        exact qop_ok (qa x hx) (qb y hy)
      · have e' : (none : Option Qt) = some q := by
          rw [← e]
          show _ = (if un a.1 b.1 = [] then some (qop w (a.2.getD (0, 1)) (b.2.getD (0, 1))) else none)
          rw [if_neg h]
        cases e'
theorem CI.step {n m : Nat} {s : Cs} (h : CI n m s) (hn : n ≤ 8) {l : Ln} (hl : LnOk m l) : CI n (m + 1) (cend s l) := by
  have key : ((cst s l).1.Pairwise (· < ·) ∧ ∀ k ∈ (cst s l).1, k < n) ∧ ((cst s l).1 = [] ↔ (cst s l).2.isSome = true) ∧ ∀ q, (cst s l).2 = some q → QOk q := by
    cases l with
    | num q => exact ⟨⟨.nil, fun k hk => nomatch hk⟩, by simp [cst], fun q' e => by cases e; exact hl.1⟩
    | op w a b => exact cop_ok hn (h.lot hl.1).2 (h.lot hl.2).2 (h.sm a hl.1) (h.sm b hl.2) (fun q e => h.qok hl.1 e) fun q e => h.qok hl.2 e
  refine ⟨by simp [cend, h.l1], by simp [cend, h.l2], fun l' hl' => ?_, fun i hi => ?_, fun q hq => ?_⟩
  · rcases List.mem_append.mp hl' with e | e
    · exact h.ri l' e
    · rw [List.mem_singleton.mp e]
      exact key.1
  · rcases Nat.lt_or_ge i m with hi' | hi'
    · have e : (cend s l).at i = s.at i := by
        unfold Cs.at cend
        rw [getD_app_left (by rw [h.l1]; exact hi'), getD_app_left (by rw [h.l2]; exact hi')]
      rw [e]
      exact h.sm i hi'
    · have ei : i = m := by omega
      subst ei
      have e : (cend s l).at i = cst s l := by
        unfold Cs.at cend
        have e1 : (s.1 ++ [(cst s l).1]).getD i [] = (cst s l).1 := by rw [← h.l1]; exact getD_app_last
        have e2 : (s.2 ++ [(cst s l).2]).getD i none = (cst s l).2 := by rw [← h.l2]; exact getD_app_last
        rw [e1, e2]
      rw [e]
      exact key.2.1
  · rcases List.mem_append.mp hq with e | e
    · exact h.ok q e
    · exact key.2.2 q (List.mem_singleton.mp e).symm
theorem c0_at {n i : Nat} (h : i < n) : (c0 n).at i = ([i], none) := by
  unfold Cs.at c0
  simp [List.getD_eq_getElem?_getD, h]
theorem ci0 (n : Nat) : CI n n (c0 n) := by
  refine ⟨by simp [c0], by simp [c0], fun l hl => ?_, fun i hi => ?_, fun q hq => ?_⟩
  · obtain ⟨k, hk, rfl⟩ := List.mem_map.mp hl
    refine ⟨by simp, fun j hj => ?_⟩
    rw [List.mem_singleton.mp hj]
    exact List.mem_range.mp hk
  · rw [c0_at hi]
    simp
  · have := List.eq_of_mem_replicate hq
    cases this
theorem ci {n : Nat} {ls : List Ln} (h : Rn n ls) (hn : n ≤ 8) : CI n (n + ls.length) (call n ls) := by
  induction h with
  | nil => exact ci0 n
  | snoc h1 h2 ih =>
    rw [call_snoc, List.length_append, List.length_singleton, ← Nat.add_assoc]
    exact ih.step hn h2
theorem cend_old {n m : Nat} {s : Cs} (h : CI n m s) {l : Ln} {i : Nat} (hi : i < m) : (cend s l).at i = s.at i := by
  unfold Cs.at cend
  rw [getD_app_left (by rw [h.l1]; exact hi), getD_app_left (by rw [h.l2]; exact hi)]
theorem cend_new {n m : Nat} {s : Cs} (h : CI n m s) {l : Ln} : (cend s l).at m = cst s l := by
  unfold Cs.at cend
  have e1 : (s.1 ++ [(cst s l).1]).getD m [] = (cst s l).1 := by rw [← h.l1]; exact getD_app_last
  have e2 : (s.2 ++ [(cst s l).2]).getD m none = (cst s l).2 := by rw [← h.l2]; exact getD_app_last
  rw [e1, e2]
/-! values at a point -/
def vst (vs : List Qt) : Ln → Qt
  | .num q => q
  | .op w a b => qop w (vs.getD a (0, 1)) (vs.getD b (0, 1))
def vrun (pt : List Qt) (ls : List Ln) : List Qt := ls.foldl (fun vs l => vs ++ [vst vs l]) pt
theorem vrun_snoc (pt : List Qt) (ls : List Ln) (l : Ln) : vrun pt (ls ++ [l]) = vrun pt ls ++ [vst (vrun pt ls) l] := by simp [vrun, List.foldl_append]
theorem vrun_len (pt : List Qt) : ∀ ls : List Ln, (vrun pt ls).length = pt.length + ls.length := by
  have : ∀ (ls : List Ln) (vs : List Qt), (ls.foldl (fun vs l => vs ++ [vst vs l]) vs).length = vs.length + ls.length := by
    intro ls
    induction ls with
    | nil => intro vs; rfl
    | cons l ls ih =>
      intro vs
      rw [List.foldl_cons, ih, List.length_append, List.length_singleton, List.length_cons]
      omega
  exact fun ls => this ls pt
def PtOk (n : Nat) (pt : List Qt) : Prop := pt.length = n ∧ ∀ q ∈ pt, QOk q ∧ QLt q 3 0
theorem vrun_ok {n : Nat} {pt : List Qt} (hp : PtOk n pt) {ls : List Ln} (h : Rn n ls) : ∀ q ∈ vrun pt ls, QOk q := by
  induction h with
  | nil => exact fun q hq => (hp.2 q hq).1
  | snoc h1 h2 ih =>
    rename_i ls l
    rw [vrun_snoc]
    intro q hq
    rcases List.mem_append.mp hq with e | e
    · exact ih q e
    · rw [List.mem_singleton.mp e]
      cases l with
      | num q' => exact h2.1
      | op w a b =>
        have hl := vrun_len pt ls
        rw [hp.1] at hl
        exact qop_ok (ih _ (getD_mem (by rw [hl]; exact h2.1))) (ih _ (getD_mem (by rw [hl]; exact h2.2)))
/-- a told number is the value -/
theorem num_val {n : Nat} (hn : n ≤ 8) {pt : List Qt} (hp : PtOk n pt) {ls : List Ln} (h : Rn n ls) : ∀ i, i < n + ls.length → ∀ q, ((call n ls).at i).2 = some q → (vrun pt ls).getD i (0, 1) = q := by
  induction h with
  | nil =>
    intro i hi q e
    have : ((c0 n).at i).2 = some q := e
    rw [c0_at (show i < n from hi)] at this
    cases this
  | snoc h1 h2 ih =>
    rename_i ls l
    intro i hi q e
    have hc := ci h1 hn
    have hl := vrun_len pt ls
    rw [hp.1] at hl
    have hok := vrun_ok hp h1
    rw [call_snoc] at e
    rw [vrun_snoc]
    rw [List.length_append, List.length_singleton] at hi
    rcases Nat.lt_or_ge i (n + ls.length) with hi' | hi'
    · rw [cend_old hc hi'] at e
      rw [getD_app_left (by omega)]
      exact ih i hi' q e
    · have ei : i = n + ls.length := by omega
      subst ei
      rw [cend_new hc] at e
      have e2 : ((vrun pt ls) ++ [vst (vrun pt ls) l]).getD (n + ls.length) (0, 1) = vst (vrun pt ls) l := by
        rw [← hl]
        exact getD_app_last
      rw [e2]
      cases l with
      | num q' => cases e; rfl
      | op w a b =>
        have oka := hok _ (getD_mem (d := (0, 1)) (l := vrun pt ls) (i := a) (by rw [hl]; exact h2.1))
        have okb := hok _ (getD_mem (d := (0, 1)) (l := vrun pt ls) (i := b) (by rw [hl]; exact h2.2))
        show qop w _ _ = q
        have e3 : (cop w ((call n ls).at a) ((call n ls).at b)).2 = some q := e
        unfold cop at e3
        split at e3
        · rename_i hz
          obtain ⟨rfl, hz⟩ := hz
          cases e3
          rcases hz with hz | hz
          · rw [ih a h2.1 (0, 1) (of_decide_eq_true hz)]
            exact qmul_zero_left okb
          · rw [ih b h2.2 (0, 1) (of_decide_eq_true hz)]
            exact qmul_zero_right oka
        · have e4 : (if un ((call n ls).at a).1 ((call n ls).at b).1 = [] then some (qop w (((call n ls).at a).2.getD (0, 1)) (((call n ls).at b).2.getD (0, 1))) else none) = some q := e3
          split at e4
          · rename_i hu
            obtain ⟨u1, u2⟩ := (un_nil (fun k hk => Nat.lt_of_lt_of_le ((hc.lot h2.1).2 k hk) hn) fun k hk => Nat.lt_of_lt_of_le ((hc.lot h2.2).2 k hk) hn).mp hu
            obtain ⟨x, hx⟩ := Option.isSome_iff_exists.mp ((hc.sm a h2.1).mp u1)
            obtain ⟨y, hy⟩ := Option.isSome_iff_exists.mp ((hc.sm b h2.2).mp u2)
            rw [hx, hy] at e4
            rw [ih a h2.1 x hx, ih b h2.2 y hy]
            exact Option.some.inj e4
          · cases e4
/-- what does not carry input j stays when j moves -/
theorem stays_val {n : Nat} (hn : n ≤ 8) {p1 p2 : List Qt} (hp1 : PtOk n p1) (hp2 : PtOk n p2) {j : Nat} (hj : ∀ i, i ≠ j → p1.getD i (0, 1) = p2.getD i (0, 1)) {ls : List Ln} (h : Rn n ls) :
    ∀ i, i < n + ls.length → j ∉ ((call n ls).at i).1 → (vrun p1 ls).getD i (0, 1) = (vrun p2 ls).getD i (0, 1) := by
  induction h with
  | nil =>
    intro i hi e
    have e' : j ∉ ((c0 n).at i).1 := e
    rw [c0_at (show i < n from hi)] at e'
    exact hj i fun z => e' (by rw [z]; exact List.mem_singleton.mpr rfl)
  | snoc h1 h2 ih =>
    rename_i ls l
    intro i hi e
    have hc := ci h1 hn
    have l1 := vrun_len p1 ls
    rw [hp1.1] at l1
    have l2 := vrun_len p2 ls
    rw [hp2.1] at l2
    have ok1 := vrun_ok hp1 h1
    have ok2 := vrun_ok hp2 h1
    rw [call_snoc] at e
    rw [vrun_snoc, vrun_snoc]
    rw [List.length_append, List.length_singleton] at hi
    rcases Nat.lt_or_ge i (n + ls.length) with hi' | hi'
    · rw [cend_old hc hi'] at e
      rw [getD_app_left (by omega), getD_app_left (by omega)]
      exact ih i hi' e
    · have ei : i = n + ls.length := by omega
      subst ei
      rw [cend_new hc] at e
      have e1 : ((vrun p1 ls) ++ [vst (vrun p1 ls) l]).getD (n + ls.length) (0, 1) = vst (vrun p1 ls) l := by
        rw [← l1]
        exact getD_app_last
      have e2 : ((vrun p2 ls) ++ [vst (vrun p2 ls) l]).getD (n + ls.length) (0, 1) = vst (vrun p2 ls) l := by
        rw [← l2]
        exact getD_app_last
      rw [e1, e2]
      cases l with
      | num q' => rfl
      | op w a b =>
        show qop w _ _ = qop w _ _
        have e3 : j ∉ (cop w ((call n ls).at a) ((call n ls).at b)).1 := e
        have a1 := ok1 _ (getD_mem (d := (0, 1)) (l := vrun p1 ls) (i := a) (by rw [l1]; exact h2.1))
        have b1 := ok1 _ (getD_mem (d := (0, 1)) (l := vrun p1 ls) (i := b) (by rw [l1]; exact h2.2))
        have a2 := ok2 _ (getD_mem (d := (0, 1)) (l := vrun p2 ls) (i := a) (by rw [l2]; exact h2.1))
        have b2 := ok2 _ (getD_mem (d := (0, 1)) (l := vrun p2 ls) (i := b) (by rw [l2]; exact h2.2))
        unfold cop at e3
        split at e3
        · rename_i hz
          obtain ⟨rfl, hz⟩ := hz
          rcases hz with hz | hz
          · have z := of_decide_eq_true hz
            rw [num_val hn hp1 h1 a h2.1 _ z, num_val hn hp2 h1 a h2.1 _ z, qmul_zero_left b1, qmul_zero_left b2]
          · have z := of_decide_eq_true hz
            rw [num_val hn hp1 h1 b h2.2 _ z, num_val hn hp2 h1 b h2.2 _ z, qmul_zero_right a1, qmul_zero_right a2]
        · have e4 : j ∉ un ((call n ls).at a).1 ((call n ls).at b).1 := e3
          rw [mem_un] at e4
          have ja : j ∉ ((call n ls).at a).1 := fun z => e4 ⟨Nat.lt_of_lt_of_le ((hc.lot h2.1).2 j z) hn, .inl z⟩
          have jb : j ∉ ((call n ls).at b).1 := fun z => e4 ⟨Nat.lt_of_lt_of_le ((hc.lot h2.2).2 j z) hn, .inr z⟩
          rw [ih a h2.1 ja, ih b h2.2 jb]
/-- all the values, at every small point, are small -/
def QB (q : Qt) : Prop := QOk q ∧ QLt q 4200 4200
def VB (n : Nat) (ls : List Ln) : Prop := ∀ pt, PtOk n pt → ∀ q ∈ vrun pt ls, QB q
theorem vrun_take (pt : List Qt) (ls : List Ln) (k : Nat) : ∃ t, vrun pt ls = vrun pt (ls.take k) ++ t := by
  have key : ∀ (l2 l1 : List Ln), ∃ t, vrun pt (l1 ++ l2) = vrun pt l1 ++ t := by
    intro l2
    induction l2 with
    | nil => intro l1; exact ⟨[], by simp⟩
    | cons l l2 ih =>
      intro l1
      obtain ⟨t, ht⟩ := ih (l1 ++ [l])
      rw [vrun_snoc] at ht
      refine ⟨vst (vrun pt l1) l :: t, ?_⟩
      rw [show l1 ++ l :: l2 = (l1 ++ [l]) ++ l2 by simp, ht]
      simp
  have := key (ls.drop k) (ls.take k)
  rw [List.take_append_drop] at this
  exact this
theorem VB.take {n : Nat} {ls : List Ln} (h : VB n ls) (k : Nat) : VB n (ls.take k) := fun pt hp q hq => by
  obtain ⟨t, ht⟩ := vrun_take pt ls k
  exact h pt hp q (by rw [ht]; exact List.mem_append_left _ hq)
def zpt (n : Nat) : List Qt := List.replicate n (0, 1)
theorem zpt_ok (n : Nat) : PtOk n (zpt n) := ⟨by simp [zpt], fun q hq => by rw [List.eq_of_mem_replicate hq]; exact ⟨qok_zero, qlt_zero⟩⟩
theorem num_qb {n : Nat} (hn : n ≤ 8) {ls : List Ln} (h : Rn n ls) (hv : VB n ls) {i : Nat} (hi : i < n + ls.length) {q : Qt} (e : ((call n ls).at i).2 = some q) : QB q := by
  have := num_val hn (zpt_ok n) h i hi q e
  rw [← this]
  refine hv (zpt n) (zpt_ok n) _ (getD_mem ?_)
  rw [vrun_len, (zpt_ok n).1]
  exact hi
/-- a plain program's lines -/
structure PrOk (n : Nat) (ls : List Ln) : Prop where
  n1 : 1 ≤ n
  n8 : n ≤ 8
  m1 : 1 ≤ ls.length
  m60 : ls.length ≤ 60
  rn : Rn n ls
  vb : VB n ls
/-! what counts for the last line -/
/-- line k reads line j where it counts -/
def Ed1 (n : Nat) (nz : Nat → Bool) (ls : List Ln) (k j : Nat) : Prop := ∃ w a b, ls[k]? = some (.op w a b) ∧ ((a = n + j ∧ ¬ (w = .mul ∧ nz b = true)) ∨ (b = n + j ∧ ¬ (w = .mul ∧ nz a = true)))
inductive Rch (E : Nat → Nat → Prop) : Nat → Nat → Prop
  | refl (k : Nat) : Rch E k k
  | step {k l j : Nat} : E k l → Rch E l j → Rch E k j
theorem Rch.snoc {E : Nat → Nat → Prop} {k l j : Nat} (h : Rch E k l) (e : E l j) : Rch E k j := by
  induction h with
  | refl k => exact .step e (.refl _)
  | step a b ih => exact .step a (ih e)
theorem Rch.tail {E : Nat → Nat → Prop} {k j : Nat} (h : Rch E k j) : j = k ∨ ∃ l, Rch E k l ∧ E l j := by
  induction h with
  | refl k => exact .inl rfl
  | step a b ih =>
    rcases ih with e | ⟨l, h1, h2⟩
    · subst e
      exact .inr ⟨_, .refl _, a⟩
    · exact .inr ⟨l, .step a h1, h2⟩
theorem Rch.head {E : Nat → Nat → Prop} {k j : Nat} (h : Rch E k j) : j = k ∨ ∃ l, E k l ∧ Rch E l j := by
  cases h with
  | refl k => exact .inl rfl
  | step a b => exact .inr ⟨_, a, b⟩
theorem ed1_lt {n : Nat} {nz : Nat → Bool} {ls : List Ln} (h : Rn n ls) {k j : Nat} (e : Ed1 n nz ls k j) : j < k := by
  obtain ⟨w, a, b, h1, h2⟩ := e
  have := h.get h1
  have h3 : a < n + k ∧ b < n + k := this
  rcases h2 with ⟨h4, _⟩ | ⟨h4, _⟩ <;> omega
theorem rch_le {E : Nat → Nat → Prop} (hE : ∀ k j, E k j → j < k) {k j : Nat} (h : Rch E k j) : j ≤ k := by
  induction h with
  | refl k => exact Nat.le_refl _
  | step a b ih =>
    have := hE _ _ a
    omega
noncomputable def rB (E : Nat → Nat → Prop) (k j : Nat) : Bool := @decide (Rch E k j) (Classical.propDecidable _)
theorem rB_iff {E : Nat → Nat → Prop} {k j : Nat} : rB E k j = true ↔ Rch E k j := by
  unfold rB
  exact @decide_eq_true_iff _ (Classical.propDecidable _)
noncomputable def cnt (n : Nat) (nz : Nat → Bool) (ls : List Ln) (k : Nat) : List Nat := (List.range (k + 1)).filter (rB (Ed1 n nz ls) k)
end Zk

-- part ZN
namespace Zk
open PySem PySem.Spec PyProof.Rows L2 Zb Zr Zm
local macro_rules | `(tactic| trivial) => `(tactic| first
  | with_reducible exact ed_int | with_reducible exact ed_str | with_reducible exact ed_bl | with_reducible exact ed_non | exact ed_var rfl
  | (with_reducible refine ed_neg ?_; trivial)
  | (with_reducible refine ed_i ?_ ?_ <;> trivial)
  | (with_reducible refine ed_c ?_ ?_ <;> trivial))
def A_is_point : CA := fun _ ss P => ∃ (n : Nat) (qs : List Qt), ss = [.dat (nD n), .dat (.tup (qs.map qD))] ∧ qs.length = n ∧ n ≤ 100 ∧ (∀ q ∈ qs, QOk q) ∧ P = fun s => s = .dat (.bl true)
/-- the first entry of each line is a text -/
def A_is_plain : CA := fun _ ss P => ∃ (d : D) (ls : List (Str × List D)), ss = [.dat (.tup [d, .tup (ls.map fun l => .tup (.str l.1 :: l.2))])] ∧ ls.length ≤ 1000 ∧ P = fun s => s = .dat (.bl (ls.all fun l => !decide (l.1 = ("mix" : Str))))
def A_lowest_terms : CA := fun _ ss P => ∃ t b : Int, ss = [.dat (.int t), .dat (.int b)] ∧ 0 < b ∧ b.natAbs < 2 ^ 9000 ∧ P = fun s => s = .dat (qD (low t b))

def A_op (w : Wd) : CA := fun _ ss P => ∃ x y, ss = [.dat (qD x), .dat (qD y)] ∧ QB x ∧ QB y ∧ P = fun s => s = .dat (qD (qop w x y))
def A_number_by : CA := fun _ ss P => ∃ w x y, ss = [.dat (.str (wS w)), .dat (qD x), .dat (qD y)] ∧ QB x ∧ QB y ∧ P = fun s => s = .dat (qD (qop w x y))
theorem lt_pow {a n m : Nat} (h : a ≤ 2 ^ n) (hn : n < m) : a < 2 ^ m := Nat.lt_of_le_of_lt h (Nat.pow_lt_pow_right (by decide) hn)
theorem mulx {a b : Int} {n m : Nat} (ha : a.natAbs ≤ 2 ^ n) (hb : b.natAbs ≤ 2 ^ m) (h : n + m + 2 ≤ 134217728) : CMulX a b := mulx_ok (lt_pow ha (Nat.lt_succ_self n)) (lt_pow hb (Nat.lt_succ_self m)) (by omega)
theorem all_true : ∀ n : Nat, (List.replicate n true).all id = true
  | 0 => rfl
  | n + 1 => by rw [List.replicate_succ, List.all_cons, all_true n]; rfl
theorem map_const {α β : Type} {f : α → β} {c : β} : ∀ {l : List α}, (∀ x ∈ l, f x = c) → l.map f = List.replicate l.length c
  | [], _ => rfl
  | x :: l, h => by rw [List.map_cons, List.length_cons, List.replicate_succ, h x (List.mem_cons_self ..), map_const fun y hy => h y (List.mem_cons_of_mem _ hy)]
section
variable {P : Program} {w : World} {K : PySem.W.Frag} {mg : Str → Option Value} {base : Heap} (T : Txt K mg)
include T
theorem ok_is_point (c_is_quotient : Cl P w K mg base 2 "is_quotient" (Con 1 A_is_quotient)) : Cl P w K mg base 3 "is_point" (Con 2 A_is_point) := by
  refine mkCl T.d_is_point sc_is_point (fun _ _ _ _ _ _ us hl => match us, hl with | [_, _], _ => rfl) Con.len (fun f cdv A outer s H vs Q E hr h => ?_)
  obtain ⟨r, ss, PP, hl, ⟨n, qs, rfl, hn, hn1, hok, rfl⟩, hv, rk, hq⟩ := h
  have en := En.start (N := ["size", "thing", "entry"]) hv rk
  refine ⟨_, (pss_cons (ps_if (PW.pt (pw_or (pt_not (pt_val (pe_callB call_isi (by rfl) T.b_isinstance (by decide +kernel) (pa_cons (pv 1) (pa_cons (pe_bltn (v := .ty "tuple") (u := .type "tuple") (by rfl) T.b_tuple (by decide +kernel) rfl) pa_nil))))) (pw_or1 (pt_cmpR op_ne (pe_callB (r := cLen K) call_len_seq (by rfl) T.b_len (by decide +kernel) (pa_cons (pv 1) pa_nil)) (pv 0) (nomark _))))) (pss_one (ps_ret pe_bl)) pss_nil) (pss_one (ps_ret (pe_callB (cr_all rfl) (by rfl) T.b_all (by decide +kernel) (pa_cons (pe_lc (own := [("entry", 2)]) (g := gName 2) rfl sc_is_point.nd (pi_tup (pv 1)) (blkOk_by (own := [("entry", 2)]) (N := ["size", "thing", "entry"]) (sc := defScope s_is_point) (by decide +kernel)) (fun _ _ _ _ _ => pg_name (i := 2) sc_is_point.nd rfl (Or.inl rfl)) (fun _ _ _ _ _ => pts_nil) (fun _ _ _ _ _ => (pe_cl c_is_quotient hr (by decide) rfl (pa_cons (pv 2) pa_nil)))) pa_nil))))), ?_⟩
  refine (q_pass en ((eb_or (eb_not (eb_B (ed_isT (v := qs.map qD) (b := true) (ed_var rfl) (by decide +kernel)))) fun _ => eb_test (ed_neI (ed_lenT (ds := qs.map qD) (by trivial)) (by trivial))).is (by simp [hn])) fun H1 en k1 => ?_)
  refine s_ret en (ed_all (bs := List.replicate qs.length true) ((el_tup (v := fun _ => D.bl true) (ds := qs.map qD) (by trivial) (by rw [List.length_map]; omega) fun i d hd => ?_).imp fun ds e => ?_)) fun v H' s k sv p => hq v H' s (k1.trans k) sv ?_
  · rw [List.getElem?_map] at hd
    obtain ⟨q, hq1, rfl⟩ := Option.map_eq_some_iff.mp hd
    exact ev_call' (ss := [.dat (qD q)]) (ea_c (ed_var rfl) ea_nil) ⟨q, rfl, hok q (List.mem_of_getElem? hq1), rfl⟩
  · rw [e, List.map_map, List.map_replicate]
    exact map_const fun _ _ => rfl
  · rw [p, all_true]
theorem ok_is_plain : Cl P w K mg base 1 "is_plain" (Con 1 A_is_plain) := by
  refine mkCl T.d_is_plain sc_is_plain (fun _ _ _ _ _ _ us hl => match us, hl with | [_], _ => rfl) Con.len (fun f cdv A outer s H vs Q E hr h => ?_)
  obtain ⟨r, ss, PP, hl, ⟨d0, ls, rfl, hn1, rfl⟩, hv, rk, hq⟩ := h
  have en := En.start (N := ["program", "line"]) hv rk
  refine ⟨_, (pss_one (ps_ret (pe_callB (cr_all rfl) (by rfl) T.b_all (by decide +kernel) (pa_cons (pe_lc (own := [("line", 1)]) (g := gName 1) rfl sc_is_plain.nd (pi_tup (pe_ix (r := rIxT K) ix_tup (pv 0) pe_int (fun _ _ => rfl))) (blkOk_by (own := [("line", 1)]) (N := ["program", "line"]) (sc := defScope s_is_plain) (by decide +kernel)) (fun _ _ _ _ _ => pg_name (i := 1) sc_is_plain.nd rfl (Or.inl rfl)) (fun _ _ _ _ _ => pts_nil) (fun _ _ _ _ _ => (pe_cmpR op_ne (pe_ix (r := rIxT K) ix_tup (pv 1) pe_int (fun _ _ => rfl)) pe_str (nomark _)))) pa_nil)))), ?_⟩
  refine s_ret en (ed_all (bs := ls.map fun l => !decide (l.1 = ("mix" : Str))) ((el_tup (v := fun d => match d with | .tup (.str x :: _) => D.bl (!decide (x = ("mix" : Str))) | _ => .non) (ds := ls.map fun l => D.tup (.str l.1 :: l.2)) (ed_ix1 (by trivial)) (by rw [List.length_map]; omega) fun i d hd => ?_).imp fun ds e => ?_)) fun v H' s k sv p => hq v H' s k sv ?_
  · rw [List.getElem?_map] at hd
    obtain ⟨l, hq1, rfl⟩ := Option.map_eq_some_iff.mp hd
    exact ed_neS (ed_ix0 (ed_var rfl)) ed_str
  · rw [e, List.map_map, List.map_map]
    rfl
  · rw [p, List.all_map]
    rfl
theorem ok_lowest_terms (c_common_divisor : Cl P w K mg base 1 "_common_divisor" (Con 2 A_common_divisor)) : Cl P w K mg base 2 "_lowest_terms" (Con 2 A_lowest_terms) := by
  refine mkCl T.d_lowest_terms sc_lowest_terms (fun _ _ _ _ _ _ us hl => match us, hl with | [_, _], _ => rfl) Con.len (fun f cdv A outer s H vs Q E hr h => ?_)
  obtain ⟨r, ss, PP, hl, ⟨t, b, rfl, hb, hb2, rfl⟩, hv, rk, hq⟩ := h
  have en := En.start (N := ["top", "bottom", "shared"]) hv rk
  refine ⟨_, (pss_cons (ps_if (pt_cmpR op_eq (pv 1) pe_int (nomark _)) (pss_one (ps_ret (pe_tup (pa_cons (pv 0) (pa_cons pe_int pa_nil))))) pss_nil) (pss_cons (ps_set (i := 2) sc_lowest_terms.nd rfl (Or.inl rfl) (pe_cl c_common_divisor hr (by decide) rfl (pa_cons (pv 0) (pa_cons (pv 1) pa_nil)))) (pss_one (ps_ret (pe_tup (pa_cons (pe_op op_fdivW (pv 0) (pv 2)) (pa_cons (pe_op op_fdivW (pv 1) (pv 2)) pa_nil))))))), ?_⟩
  refine q_if0 en (eb_test (ed_eqI (by trivial) (by trivial))) (fun e1 H1 en k1 => ?_) fun e1 H1 en k1 => ?_
  · have e2 : b = 1 := by simpa using e1
    refine s_ret en (ed_tup (ds := [.int t, .int 1]) (ea_cd (by trivial) (ea_cd (by trivial) ea_n))) fun v H' s k sv p => hq v H' s (k1.trans k) sv ?_
    rw [p, e2, low_one]
    rfl
  · refine q_set en (ev_call' (ss := [.dat (.int t), .dat (.int b)]) (ea_c (by trivial) (ea_c (by trivial) ea_nil)) ⟨_, _, rfl, rfl⟩) fun σ2 H2 en k2 => ?_
    have hg := gcd_pos (t := t) hb
    have hd : CDivW t (Int.gcd t b : Int) := wide_div (by omega) (b := 9000) (by
      have h1 : Int.gcd t b ≤ b.natAbs := by
        exact Nat.le_of_dvd (by omega) (Nat.gcd_dvd_right t.natAbs b.natAbs)
      rw [Int.natAbs_natCast]
      omega) (by decide) (by decide)
    have hd2 : CDivW b (Int.gcd t b : Int) := hd
    refine s_ret en (ed_tup (ds := [.int (t / (Int.gcd t b : Int)), .int (b / (Int.gcd t b : Int))]) (ea_cd (ed_iC (f := fun i j => i / j) (by trivial) (by trivial) hd) (ea_cd (ed_iC (f := fun i j => i / j) (by trivial) (by trivial) hd2) ea_n))) fun v H' s k sv p => hq v H' s ((k1.trans k2).trans k) sv ?_
    rw [p]
    rfl
theorem ok_plus (c_is_quotient : Cl P w K mg base 2 "is_quotient" (Con 1 A_is_quotient)) (c_lowest_terms : Cl P w K mg base 2 "_lowest_terms" (Con 2 A_lowest_terms)) : Cl P w K mg base 3 "plus" (Con 2 (A_op .add)) := by
  refine mkCl T.d_plus sc_plus (fun _ _ _ _ _ _ us hl => match us, hl with | [_, _], _ => rfl) Con.len (fun f cdv A outer s H vs Q E hr h => ?_)
  obtain ⟨r, ss, PP, hl, ⟨x, y, rfl, hx, hy, rfl⟩, hv, rk, hq⟩ := h
  have en := En.start (N := ["one", "other"]) hv rk
  refine ⟨_, (pss_cons (ps_if (pt_not (pt_val (pe_cl c_is_quotient hr (by decide) rfl (pa_cons (pv 1) pa_nil)))) (pss_one ps_never) pss_nil) (pss_one (ps_ret (pe_cl c_lowest_terms hr (by decide) rfl (pa_cons (pe_op op_add (pe_op op_mulX (pe_ix (r := rIxT K) ix_tup (pv 0) pe_int (fun _ _ => rfl)) (pe_ix (r := rIxT K) ix_tup (pv 1) pe_int (fun _ _ => rfl))) (pe_op op_mulX (pe_ix (r := rIxT K) ix_tup (pv 1) pe_int (fun _ _ => rfl)) (pe_ix (r := rIxT K) ix_tup (pv 0) pe_int (fun _ _ => rfl)))) (pa_cons (pe_op op_mulX (pe_ix (r := rIxT K) ix_tup (pv 0) pe_int (fun _ _ => rfl)) (pe_ix (r := rIxT K) ix_tup (pv 1) pe_int (fun _ _ => rfl))) pa_nil)))))), ?_⟩
  refine q_pass en ((eb_not (eb_B (ev_call' (ss := [.dat (qD y)]) (ea_c (ed_var rfl) ea_nil) ⟨y, rfl, hy.1, rfl⟩))).is rfl) fun H1 en k1 => ?_
  have hp := pre_le (w := .add) (N := 8401) (M := 8400) hx.2 hy.2 (by decide) (by decide)
  refine s_ret en (ev_call' (ss := [.dat (.int (x.1 * y.2 + y.1 * x.2)), .dat (.int (x.2 * y.2))]) (ea_c (ed_i (f := fun i j => i + j) (ed_iC (f := fun i j => i * j) (ed_ix0 (ed_var rfl)) (ed_ix1 (ed_var rfl)) (mulx hx.2.1 hy.2.2 (by decide))) (ed_iC (f := fun i j => i * j) (ed_ix0 (ed_var rfl)) (ed_ix1 (ed_var rfl)) (mulx hy.2.1 hx.2.2 (by decide)))) (ea_c (ed_iC (f := fun i j => i * j) (ed_ix1 (ed_var rfl)) (ed_ix1 (ed_var rfl)) (mulx hx.2.2 hy.2.2 (by decide))) ea_nil)) ⟨_, _, rfl, Int.mul_pos hx.1.1 hy.1.1, lt_pow hp.2 (by decide), rfl⟩) fun v H' s k sv p => hq v H' s (k1.trans k) sv p
theorem ok_minus (c_is_quotient : Cl P w K mg base 2 "is_quotient" (Con 1 A_is_quotient)) (c_lowest_terms : Cl P w K mg base 2 "_lowest_terms" (Con 2 A_lowest_terms)) : Cl P w K mg base 3 "minus" (Con 2 (A_op .sub)) := by
  refine mkCl T.d_minus sc_minus (fun _ _ _ _ _ _ us hl => match us, hl with | [_, _], _ => rfl) Con.len (fun f cdv A outer s H vs Q E hr h => ?_)
  obtain ⟨r, ss, PP, hl, ⟨x, y, rfl, hx, hy, rfl⟩, hv, rk, hq⟩ := h
  have en := En.start (N := ["one", "other"]) hv rk
  refine ⟨_, (pss_cons (ps_if (pt_not (pt_val (pe_cl c_is_quotient hr (by decide) rfl (pa_cons (pv 1) pa_nil)))) (pss_one ps_never) pss_nil) (pss_one (ps_ret (pe_cl c_lowest_terms hr (by decide) rfl (pa_cons (pe_op op_sub (pe_op op_mulX (pe_ix (r := rIxT K) ix_tup (pv 0) pe_int (fun _ _ => rfl)) (pe_ix (r := rIxT K) ix_tup (pv 1) pe_int (fun _ _ => rfl))) (pe_op op_mulX (pe_ix (r := rIxT K) ix_tup (pv 1) pe_int (fun _ _ => rfl)) (pe_ix (r := rIxT K) ix_tup (pv 0) pe_int (fun _ _ => rfl)))) (pa_cons (pe_op op_mulX (pe_ix (r := rIxT K) ix_tup (pv 0) pe_int (fun _ _ => rfl)) (pe_ix (r := rIxT K) ix_tup (pv 1) pe_int (fun _ _ => rfl))) pa_nil)))))), ?_⟩
  refine q_pass en ((eb_not (eb_B (ev_call' (ss := [.dat (qD y)]) (ea_c (ed_var rfl) ea_nil) ⟨y, rfl, hy.1, rfl⟩))).is rfl) fun H1 en k1 => ?_
  have hp := pre_le (w := .sub) (N := 8401) (M := 8400) hx.2 hy.2 (by decide) (by decide)
  refine s_ret en (ev_call' (ss := [.dat (.int (x.1 * y.2 - y.1 * x.2)), .dat (.int (x.2 * y.2))]) (ea_c (ed_i (f := fun i j => i - j) (ed_iC (f := fun i j => i * j) (ed_ix0 (ed_var rfl)) (ed_ix1 (ed_var rfl)) (mulx hx.2.1 hy.2.2 (by decide))) (ed_iC (f := fun i j => i * j) (ed_ix0 (ed_var rfl)) (ed_ix1 (ed_var rfl)) (mulx hy.2.1 hx.2.2 (by decide)))) (ea_c (ed_iC (f := fun i j => i * j) (ed_ix1 (ed_var rfl)) (ed_ix1 (ed_var rfl)) (mulx hx.2.2 hy.2.2 (by decide))) ea_nil)) ⟨_, _, rfl, Int.mul_pos hx.1.1 hy.1.1, lt_pow hp.2 (by decide), rfl⟩) fun v H' s k sv p => hq v H' s (k1.trans k) sv p
theorem ok_times (c_is_quotient : Cl P w K mg base 2 "is_quotient" (Con 1 A_is_quotient)) (c_lowest_terms : Cl P w K mg base 2 "_lowest_terms" (Con 2 A_lowest_terms)) : Cl P w K mg base 3 "times" (Con 2 (A_op .mul)) := by
  refine mkCl T.d_times sc_times (fun _ _ _ _ _ _ us hl => match us, hl with | [_, _], _ => rfl) Con.len (fun f cdv A outer s H vs Q E hr h => ?_)
  obtain ⟨r, ss, PP, hl, ⟨x, y, rfl, hx, hy, rfl⟩, hv, rk, hq⟩ := h
  have en := En.start (N := ["one", "other"]) hv rk
  refine ⟨_, (pss_cons (ps_if (pt_not (pt_val (pe_cl c_is_quotient hr (by decide) rfl (pa_cons (pv 1) pa_nil)))) (pss_one ps_never) pss_nil) (pss_one (ps_ret (pe_cl c_lowest_terms hr (by decide) rfl (pa_cons (pe_op op_mulX (pe_ix (r := rIxT K) ix_tup (pv 0) pe_int (fun _ _ => rfl)) (pe_ix (r := rIxT K) ix_tup (pv 1) pe_int (fun _ _ => rfl))) (pa_cons (pe_op op_mulX (pe_ix (r := rIxT K) ix_tup (pv 0) pe_int (fun _ _ => rfl)) (pe_ix (r := rIxT K) ix_tup (pv 1) pe_int (fun _ _ => rfl))) pa_nil)))))), ?_⟩
  refine q_pass en ((eb_not (eb_B (ev_call' (ss := [.dat (qD y)]) (ea_c (ed_var rfl) ea_nil) ⟨y, rfl, hy.1, rfl⟩))).is rfl) fun H1 en k1 => ?_
  have hp := pre_le (w := .mul) (N := 8400) (M := 8400) hx.2 hy.2 (by decide) (by decide)
  refine s_ret en (ev_call' (ss := [.dat (.int (x.1 * y.1)), .dat (.int (x.2 * y.2))]) (ea_c (ed_iC (f := fun i j => i * j) (ed_ix0 (ed_var rfl)) (ed_ix0 (ed_var rfl)) (mulx hx.2.1 hy.2.1 (by decide))) (ea_c (ed_iC (f := fun i j => i * j) (ed_ix1 (ed_var rfl)) (ed_ix1 (ed_var rfl)) (mulx hx.2.2 hy.2.2 (by decide))) ea_nil)) ⟨_, _, rfl, Int.mul_pos hx.1.1 hy.1.1, lt_pow hp.2 (by decide), rfl⟩) fun v H' s k sv p => hq v H' s (k1.trans k) sv p
theorem ok_number_by (c_plus : Cl P w K mg base 3 "plus" (Con 2 (A_op .add))) (c_minus : Cl P w K mg base 3 "minus" (Con 2 (A_op .sub))) (c_times : Cl P w K mg base 3 "times" (Con 2 (A_op .mul))) : Cl P w K mg base 4 "_number_by" (Con 3 A_number_by) := by
  refine mkCl T.d_number_by sc_number_by (fun _ _ _ _ _ _ us hl => match us, hl with | [_, _, _], _ => rfl) Con.len (fun f cdv A outer s H vs Q E hr h => ?_)
  obtain ⟨r, ss, PP, hl, ⟨wd, x, y, rfl, hx, hy, rfl⟩, hv, rk, hq⟩ := h
  have en := En.start (N := ["word", "one", "other"]) hv rk
  refine ⟨_, (pss_cons (ps_if (pt_cmpR op_eq (pv 0) pe_str (nomark _)) (pss_one (ps_ret (pe_cl c_plus hr (by decide) rfl (pa_cons (pv 1) (pa_cons (pv 2) pa_nil))))) pss_nil) (pss_cons (ps_if (pt_cmpR op_eq (pv 0) pe_str (nomark _)) (pss_one (ps_ret (pe_cl c_minus hr (by decide) rfl (pa_cons (pv 1) (pa_cons (pv 2) pa_nil))))) pss_nil) (pss_one (ps_ret (pe_cl c_times hr (by decide) rfl (pa_cons (pv 1) (pa_cons (pv 2) pa_nil))))))), ?_⟩
  have ca : ∀ {G : List Sl}, G[1]? = some (.dat (qD x)) → G[2]? = some (.dat (qD y)) → Ea r (tCons (tVar 1) (tCons (tVar 2) tNil)) G (fun ss => ss = [.dat (qD x), .dat (qD y)]) := fun h1 h2 => ea_c (ed_var h1) (ea_c (ed_var h2) ea_nil)
  cases wd with
  | add =>
    refine q_take en ((eb_test (ed_eqS (by trivial) (by trivial))).is (by decide +kernel)) fun H1 en k1 => ?_
    exact s_ret en (ev_call' (ca rfl rfl) ⟨x, y, rfl, hx, hy, rfl⟩) fun v H' s k sv p => hq v H' s (k1.trans k) sv p
  | sub =>
    refine q_pass en ((eb_test (ed_eqS (by trivial) (by trivial))).is (by decide +kernel)) fun H1 en k1 => ?_
    refine q_take en ((eb_test (ed_eqS (by trivial) (by trivial))).is (by decide +kernel)) fun H2 en k2 => ?_
    exact s_ret en (ev_call' (ca rfl rfl) ⟨x, y, rfl, hx, hy, rfl⟩) fun v H' s k sv p => hq v H' s ((k1.trans k2).trans k) sv p
  | mul =>
    refine q_pass en ((eb_test (ed_eqS (by trivial) (by trivial))).is (by decide +kernel)) fun H1 en k1 => ?_
    refine q_pass en ((eb_test (ed_eqS (by trivial) (by trivial))).is (by decide +kernel)) fun H2 en k2 => ?_
    exact s_ret en (ev_call' (ca rfl rfl) ⟨x, y, rfl, hx, hy, rfl⟩) fun v H' s k sv p => hq v H' s ((k1.trans k2).trans k) sv p
end
end Zk

-- part ZT
namespace Zk
open PySem PySem.Spec PyProof.Rows L2 Zb Zr Zm
local macro_rules | `(tactic| trivial) => `(tactic| first
  | with_reducible exact ed_int | with_reducible exact ed_str | with_reducible exact ed_bl | with_reducible exact ed_non | exact ed_var rfl
  | (with_reducible refine ed_neg ?_; trivial)
  | (with_reducible refine ed_i ?_ ?_ <;> trivial)
  | (with_reducible refine ed_c ?_ ?_ <;> trivial))
/-- a draw below n -/
def Dr (n : Nat) : Sl → Prop := fun s => ∃ t : Nat, t < n ∧ s = .dat (nD t)
def A_take : CA := fun r ss P => ∃ a n, r = some a ∧ ss = [.row a, .dat (nD n)] ∧ 0 < n ∧ P = Dr n
def A_quotient : CA := fun r ss P => ∃ a, r = some a ∧ ss = [.row a] ∧ P = fun s => ∃ q, QSm q ∧ s = .dat (qD q)
def A_place : CA := fun r ss P => ∃ a n, r = some a ∧ ss = [.row a, .dat (nD n)] ∧ 0 < n ∧ P = Dr n
def A_line : CA := fun r ss P => ∃ (a v : Addr) (n : Nat) (vs : List Nat), r = some a ∧ ss = [.row a, .dat (nD n), .lst v (vs.map nD)] ∧ 0 < n ∧ (∀ k ∈ vs, k < n) ∧ P = fun s => ∃ l, LnOk n l ∧ s = .dat (lD l)
def A_plainer : CA := fun r ss P => ∃ a n p, r = some a ∧ ss = [.row a, .dat (nD n), .dat (nD p)] ∧ 0 < n ∧ P = fun s => ∃ w k, k < n ∧ s = .dat (lD (.op w p k))
def A_law_lowest : CA := fun _ ss P => ∃ t b : Int, ss = [.dat (.int t), .dat (.int b)] ∧ 0 < b ∧ t.natAbs < 2 ^ 9000 ∧ b.natAbs < 2 ^ 9000 ∧ P = fun s => s = .dat (qD (low t b))
def A_added : CA := fun _ ss P => ∃ x y, ∃ w : Wd, w ≠ .mul ∧ ss = [.dat (qD x), .dat (qD y), .dat (.int (if w = .add then 1 else -1))] ∧ QB x ∧ QB y ∧ P = fun s => s = .dat (qD (qop w x y))
def A_product : CA := fun _ ss P => ∃ x y, ss = [.dat (qD x), .dat (qD y)] ∧ QB x ∧ QB y ∧ P = fun s => s = .dat (qD (qop .mul x y))
theorem Kp.rowMut {a : Addr} {H : Hp} {xs : List V} {ns : List Int} (h : H a = some (.lst xs)) : Kp (some a) H (L2.upd H a (.lst (ns.map V.int))) := by
  refine ⟨fun c ys n e => ?_, fun c ys e => ?_, fun c ys e => Rd.updNe (Rd.neL h e) e, fun c e z => ?_, fun c e => (upd_none e).1, fun c ys e => ?_, fun c o' u e => ?_⟩
  · rw [upd_ne (fun z => n (by rw [z]))]
    exact e
  · rw [upd_ne (ne_of e h (by intro z; cases z))]
    exact e
  · cases e
    exact ⟨ns, upd_same⟩
  · rw [upd_ne (ne_of e h (by intro z; cases z))]
    exact e
  · rw [upd_ne (ne_of e h (by intro z; cases z))]
    exact e
section
variable {r : Option Addr} {K : PySem.W.Frag} {G : List Sl} {σ : L2.St} {H H0 : Hp} {ta to : TA} {te tb : TE}
/-- one of a tuple -/
theorem ev_pick {ds : List D} {n : Nat} (ha : Ed r te G (.tup ds)) (hb : Ev r tb G (Dr n)) (hn : n ≤ ds.length) : Ev r (tOp (rIxT K) te tb) G (fun s => ∃ d, d ∈ ds ∧ s = .dat d) := by
  refine ev_op (P1 := fun x => x = .dat (.tup ds)) ha hb fun s t e1 ⟨k, hk, e2⟩ => ?_
  subst e1 e2
  have hl : k < ds.length := by omega
  intro H x y hx hy rk Q q
  exact rd_ixT (K := K) (List.getElem?_eq_getElem hl) H x y hx hy rk Q fun v H2 u k2 sv pu => q v H2 u k2 sv ⟨_, List.getElem_mem hl, pu⟩
theorem ev_pickL {ds : List D} {n : Nat} {a : Addr} (ha : Ev r te G (fun s => s = .lst a ds)) (hb : Ev r tb G (Dr n)) (hn : n ≤ ds.length) : Ev r (tOp (rIxL K) te tb) G (fun s => ∃ d, d ∈ ds ∧ s = .dat d) := by
  refine ev_op (P1 := fun x => x = .lst a ds) ha hb fun s t e1 ⟨k, hk, e2⟩ => ?_
  subst e1 e2
  have hl : k < ds.length := by omega
  intro H x y hx hy rk Q q
  exact rd_ixL (K := K) (List.getElem?_eq_getElem hl) H x y hx hy rk Q fun v H2 u k2 sv pu => q v H2 u k2 sv ⟨_, List.getElem_mem hl, pu⟩
theorem ev_take {E : XK} {a : Addr} {n : Nat} {tr : TE} (h1 : Ev (some a) tr G (fun x => x = .row a)) (h2 : Ed (some a) te G (nD n)) (hn : 0 < n) : Ev (some a) (tCall (Con 2 A_take) [] E (tCons tr (tCons te tNil))) G (Dr n) :=
  ev_call' (ss := [.row a, .dat (nD n)]) (ea_c h1 (ea_c h2 ea_nil)) ⟨a, n, rfl, rfl, hn, rfl⟩
theorem ev_callI {n : Nat} {A : Option Addr → List Sl → (Sl → Prop) → Prop} {E : XK} {t : TA} {PP : List Sl → Prop} {P : Sl → Prop} (h : Ea r t G PP) (hA : ∀ ss, PP ss → ss.length = n ∧ ∃ P0, A r ss P0 ∧ ∀ s, P0 s → P s) : Ev r (tCall (Con n A) [] E t) G P := fun σ H e Q q =>
  h σ H e _ fun vs H2 ss k2 sv pv => by
    obtain ⟨hl, P0, ha, hi⟩ := hA ss pv
    refine ⟨r, ss, P0, by rw [List.append_nil, sv.length, hl], ha, by rw [List.append_nil]; exact sv, k2.rk e.rk, fun v H3 s k3 s3 p3 => q v H3 s (k2.trans k3) s3 (hi s p3)⟩
theorem ev_row {a : Addr} {i : Nat} (hg : G[i]? = some (.row a)) : Ev r (tVar i) G (fun x => x = .row a) := ev_var hg
theorem ed_bits {i : Int} (h : Ed r te G (.int i)) : Ed r (tBits te) G (.int (Builtin.Int.intBits i : Nat)) := fun σ H e Q q => h σ H e _ fun v H2 s k2 sv p => by
  subst p
  cases sv.d
  exact ⟨i, rfl, q _ H2 _ k2 (.dat (.int _)) rfl⟩
end
section
variable {P : Program} {w : World} {K : PySem.W.Frag} {mg : Str → Option Value} {base : Heap} (T : Txt K mg)
include T
theorem ok_law_take : Cl P w K mg base 1 "_law_take" (Con 2 A_take) := by
  refine mkCl T.d_law_take sc_law_take (fun _ _ _ _ _ _ us hl => match us, hl with | [_, _], _ => rfl) Con.len (fun f cdv A outer s H vs Q E hr h => ?_)
  obtain ⟨r, ss, PP, hl, ⟨a, n, rfl, rfl, hn, rfl⟩, hv, rk, hq⟩ := h
  have en := En.start (N := ["_law_row_here", "_law_many"]) hv rk
  refine ⟨_, (pss_cons (ps_if (pt_not (pt_truth (pv 0) (by intro _; rfl))) (pss_one (ps_ret pe_int)) pss_nil) (pss_one (ps_ret (pe_op op_mod (pe_callTy call_int1 (by rfl) T.b_int (by decide +kernel) (pa_cons (pe_bm0 PySem.F.plainAttrs_list PySem.F.slot_list_pop PySem.F.type_list_pop mt_pop (pv 0)) pa_nil)) (pv 1))))), ?_⟩
  obtain ⟨v, g1, g2⟩ := en.get (i := 0) rfl (by intro z; cases z)
  obtain ⟨m, g3, g4⟩ := en.get (i := 1) rfl (by intro z; cases z)
  cases g4.d
  cases g2 with
  | row _ hrow =>
    obtain ⟨ns, hns⟩ := id hrow
    refine ⟨.ref a, g1, _, .inl ⟨_, SqL.of hns, rfl⟩, ?_⟩
    cases ns with
    | nil =>
      exact hq (.int 0) H (.dat (nD 0)) (Kp.refl _ H) (.dat (.int 0)) ⟨0, hn, rfl⟩
    | cons x xs =>
      refine ⟨.ref a, g1, .inl ⟨rfl, _, SqL.of hns⟩, ?_⟩
      have hl : ((x :: xs).map V.int).length - 1 < ((x :: xs).map V.int).length := by simp
      have hy : (((x :: xs).map V.int))[((x :: xs).map V.int).length - 1]? = some (V.int ((x :: xs)[(x :: xs).length - 1])) := by
        rw [List.getElem?_map]
        simp
      refine ⟨a, _, V.int ((x :: xs)[(x :: xs).length - 1]), rfl, rfl, hns, hy, ?_⟩
      refine .inl ⟨_, rfl, ?_⟩
      refine ⟨_, g3, _, _, rfl, rfl, (show (0 : Int) < n by omega), ?_⟩
      have km : Kp (some a) H (L2.upd H a (.lst ((x :: xs).dropLast.map V.int))) := Kp.rowMut hns
      have ed : ((x :: xs).map V.int).dropLast = (x :: xs).dropLast.map V.int := by rw [List.map_dropLast]
      rw [ed]
      generalize (x :: xs)[(x :: xs).length - 1] = y
      have h0 := Int.emod_nonneg y (show (n : Int) ≠ 0 by omega)
      have h1 := Int.emod_lt_of_pos y (show (0 : Int) < n by omega)
      refine hq _ _ (.dat (nD (y % (n : Int)).toNat)) km (.dat ?_) ⟨(y % (n : Int)).toNat, by omega, rfl⟩
      have : ((y % (n : Int)).toNat : Int) = y % (n : Int) := by omega
      unfold nD
      rw [this]
      exact .int _
theorem ok_law_lowest : Cl P w K mg base 1 "_law_lowest" (Con 2 A_law_lowest) := by
  refine mkCl T.d_law_lowest sc_law_lowest (fun _ _ _ _ _ _ us hl => match us, hl with | [_, _], _ => rfl) Con.len (fun f cdv A outer s H vs Q E hr h => ?_)
  obtain ⟨r, ss, PP, hl, ⟨t, b, rfl, hb, ht9, hb9, rfl⟩, hv, rk, hq⟩ := h
  have en := En.start (N := ["_law_top", "_law_bottom", "_law_left", "_law_right", "_law_turn"]) hv rk
  refine ⟨_, (pss_cons (ps_par (i := 2) (j := 3) rfl sc_law_lowest.nd rfl rfl (by decide) rfl rfl (pa_cons (pe_callB call_abs (by rfl) T.b_abs (by decide +kernel) (pa_cons (pv 0) pa_nil)) (pa_cons (pv 1) pa_nil)) (by rfl)) (pss_cons (ps_for PassesOwn.never rfl (pi_range1 rfl T.b_range (pa_cons (pe_op op_add (pe_op op_mulX pe_int (pe_bits (pe_callB (call_max2 rfl) (by rfl) T.b_max (by decide +kernel) (pa_cons (pv 2) (pa_cons (pv 3) pa_nil))))) pe_int) pa_nil)) (pg_name (i := 4) sc_law_lowest.nd rfl (Or.inl rfl)) (pss_cons (ps_if (pt_cmpR op_eq (pv 3) pe_int (nomark _)) (pss_one ps_break) pss_nil) (pss_one (ps_par (i := 2) (j := 3) rfl sc_law_lowest.nd rfl rfl (by decide) rfl rfl (pa_cons (pv 3) (pa_cons (pe_op op_mod (pe_callTy call_int1 (by rfl) T.b_int (by decide +kernel) (pa_cons (pv 2) pa_nil)) (pv 3)) pa_nil)) (by rfl))))) (pss_one (ps_ret (pe_tup (pa_cons (pe_op op_fdivW (pv 0) (pv 2)) (pa_cons (pe_op op_fdivW (pv 1) (pv 2)) pa_nil))))))), ?_⟩
  refine q_par en (ea_c (ed_abs (by trivial)) (ea_c (by trivial) ea_nil)) fun σ1 H1 en1 k1 => ?_
  obtain ⟨bn, rfl⟩ : ∃ bn : Nat, b = (bn : Int) := ⟨b.natAbs, by omega⟩
  have fin : ∀ (σ' : L2.St) (H' : Hp) (g : Sl), En r H' σ' [.dat (.int t), .dat (.int bn), .dat (.int (Int.gcd t bn : Int)), .dat (.int 0), g] → Kp r H H' → tRet (tTup (tCons (tOp (rI CDivW fun i j => .int (i / j)) (tVar 0) (tVar 2)) (tCons (tOp (rI CDivW fun i j => .int (i / j)) (tVar 1) (tVar 2)) tNil))) { nx := fun x H' => Q V.non H', rt := Q } σ' H' := fun σ' H' g en k => by
    have hg := gcd_pos (t := t) hb
    have hd : CDivW t (Int.gcd t (bn : Int) : Int) := wide_div (by omega) (b := 9000) (by
      have h1 : Int.gcd t (bn : Int) ≤ (bn : Int).natAbs := by
        exact Nat.le_of_dvd (by omega) (Nat.gcd_dvd_right t.natAbs (bn : Int).natAbs)
      rw [Int.natAbs_natCast]
      omega) (by decide) (by decide)
    have hd2 : CDivW (bn : Int) (Int.gcd t (bn : Int) : Int) := hd
    refine s_ret en (ed_tup (ds := [.int (t / (Int.gcd t (bn : Int) : Int)), .int ((bn : Int) / (Int.gcd t (bn : Int) : Int))]) (ea_cd (ed_iC (f := fun i j => i / j) (by trivial) (by trivial) hd) (ea_cd (ed_iC (f := fun i j => i / j) (by trivial) (by trivial) hd2) ea_n))) fun v H' s k2 sv p => hq v H' s (k.trans k2) sv ?_
    rw [p]
    rfl
  have hB : ∀ i : Int, i.natAbs < 2 ^ 9000 → Builtin.Int.intBits i ≤ 9000 := fun i hi => PyProof.Rows.intBits_le hi
  have hB2 : ∀ i : Int, i.natAbs < 2 ^ (Builtin.Int.intBits i) := fun i => by
    unfold Builtin.Int.intBits
    split
    · rename_i hz
      have : i = 0 := by simpa using hz
      subst this
      decide
    · rename_i hz
      have : i.natAbs ≠ 0 := by
        intro z
        apply hz
        simp
        omega
      exact Nat.lt_log2_self
  generalize hM : max ((t.natAbs : Nat) : Int) (bn : Int) = M
  have m1 : t.natAbs ≤ M.natAbs := by omega
  have m2 : bn ≤ M.natAbs := by omega
  have m3 : M.natAbs < 2 ^ 9000 := by
    rcases Int.le_total ((t.natAbs : Nat) : Int) (bn : Int) with h | h
    · rw [Int.max_eq_right h] at hM
      rw [← hM, Int.natAbs_natCast]
      rw [Int.natAbs_natCast] at hb9
      exact hb9
    · rw [Int.max_eq_left h] at hM
      rw [← hM, Int.natAbs_natCast]
      exact ht9
  have b1 := hB M m3
  have b2 := hB2 M
  generalize hBB : Builtin.Int.intBits M = B at b1 b2
  refine q_seq (l_rng1 (n := 2 * B + 4) en1 (ea_c (s := .dat (.int ((2 * B + 4 : Nat) : Int))) ?_ ea_nil) (by omega) (fun i σ' H' => ∃ l n : Nat, ∃ g, En r H' σ' [.dat (.int t), .dat (.int bn), .dat (.int l), .dat (.int n), g] ∧ Kp r H H' ∧ EuAt t.natAbs bn B i l n) (fun H' en k => ⟨_, _, _, en, k1.trans k, euAt_zero (by omega) (by omega)⟩) (fun i σ' H' hi hP => ?_) (fun σ' H' hP => ?_))
  · refine Ed.is (ed_i (f := fun i j => i + j) (ed_iC (f := fun i j => i * j) ed_int (ed_bits (ed_max (by trivial) (by trivial))) ?_) ed_int) ?_
    · rw [hM, hBB]
      exact mulx_ok (a := 2) (b := 60) (by decide) (by rw [Int.natAbs_natCast]; omega) (by decide)
    · rw [hM, hBB]
      congr 1
  · obtain ⟨l, n, g, en, k, he⟩ := hP
    have en' := en.set (v := .int (i : Nat)) (s := .dat (.int (i : Nat))) 4 (.dat (.int _))
    refine q_if0 en' (eb_test (ed_eqI (by trivial) (by trivial))) (fun e1 H1 en k1 => ?_) fun e1 H1 en k1 => ?_
    · have hz : n = 0 := by
        have := of_decide_eq_true e1
        omega
      subst hz
      have hg : (l : Int) = (Int.gcd t (bn : Int) : Int) := by
        have := he.g
        rw [Nat.gcd_zero_right] at this
        rw [this]
        rfl
      have en2 : En r H1 (σ'.set 4 (some (.int (i : Nat)))) [.dat (.int t), .dat (.int bn), .dat (.int (l : Int)), .dat (.int 0), .dat (.int (i : Nat))] := en
      rw [hg] at en2
      exact fin _ H1 _ en2 (k.trans k1)
    · have hz : n ≠ 0 := by
        intro z
        subst z
        simp at e1
      refine s_par en (ea_c (by trivial) (ea_c (ed_iC (f := fun i j => i % j) (ed_intOf (by trivial)) (by trivial) (show (0 : Int) < n by omega)) ea_nil)) fun σ3 H3 en k3 => ?_
      exact ⟨n, l % n, _, en, (k.trans k1).trans k3, euAt_step he hz⟩
  · obtain ⟨l, n, g, en, k, he⟩ := hP
    obtain ⟨hn, hl⟩ := euAt_end he (by omega)
    subst hn
    have hg : (l : Int) = (Int.gcd t (bn : Int) : Int) := by rw [hl]; rfl
    have en2 : En r H' σ' [.dat (.int t), .dat (.int bn), .dat (.int (l : Int)), .dat (.int 0), g] := en
    rw [hg] at en2
    exact fin _ H' _ en2 k
theorem ok_law_quotient (c_law_take : Cl P w K mg base 1 "_law_take" (Con 2 A_take)) (c_law_lowest : Cl P w K mg base 1 "_law_lowest" (Con 2 A_law_lowest)) : Cl P w K mg base 2 "_law_quotient" (Con 1 A_quotient) := by
  refine mkCl T.d_law_quotient sc_law_quotient (fun _ _ _ _ _ _ us hl => match us, hl with | [_], _ => rfl) Con.len (fun f cdv A outer s H vs Q E hr h => ?_)
  obtain ⟨r, ss, PP, hl, ⟨a, rfl, rfl, rfl⟩, hv, rk, hq⟩ := h
  have en := En.start (N := ["_law_row_here", "_law_top"]) hv rk
  refine ⟨_, (pss_cons (ps_set (i := 1) sc_law_quotient.nd rfl (Or.inl rfl) (pe_ix (r := rIxT K) ix_tup (pe_tup (pa_cons pe_int (pa_cons pe_int (pa_cons (pe_un un_neg pe_int) (pa_cons pe_int (pa_cons pe_int (pa_cons (pe_un un_neg pe_int) (pa_cons pe_int pa_nil)))))))) (pe_cl c_law_take hr (by decide) rfl (pa_cons (pv 0) (pa_cons pe_int pa_nil))) (fun _ _ => rfl))) (pss_one (ps_ret (pe_cl c_law_lowest hr (by decide) rfl (pa_cons (pv 1) (pa_cons (pe_ix (r := rIxT K) ix_tup (pe_tup (pa_cons pe_int (pa_cons pe_int (pa_cons pe_int (pa_cons pe_int pa_nil))))) (pe_cl c_law_take hr (by decide) rfl (pa_cons (pv 0) (pa_cons pe_int pa_nil))) (fun _ _ => rfl)) pa_nil)))))), ?_⟩
  refine q_setP en (ev_pick (ds := [.int 0, .int 1, .int (-1), .int 2, .int 3, .int (-2), .int 4]) (ed_tup (ea_cd ed_int (ea_cd ed_int (ea_cd (ed_neg ed_int) (ea_cd ed_int (ea_cd ed_int (ea_cd (ed_neg ed_int) (ea_cd ed_int ea_n)))))))) (ev_take (n := 7) (ev_row rfl) ed_int (by decide)) (by decide)) fun s1 σ1 H1 p1 en k1 => ?_
  obtain ⟨d1, m1, rfl⟩ := p1
  have ht : ∃ t : Int, d1 = .int t ∧ t.natAbs ≤ 4 := by
    simp only [List.mem_cons, List.not_mem_nil, or_false] at m1
    rcases m1 with h | h | h | h | h | h | h <;> exact ⟨_, h, by decide⟩
  obtain ⟨t, rfl, ht⟩ := ht
  refine s_ret en (ev_callI (PP := fun ss => ∃ b : Int, 0 < b ∧ b.natAbs ≤ 3 ∧ ss = [.dat (.int t), .dat (.int b)]) ((ea_cons (P := fun s => s = .dat (.int t)) (by trivial) (ea_cons (ev_pick (ds := [.int 1, .int 1, .int 2, .int 3]) (ed_tup (ea_cd ed_int (ea_cd ed_int (ea_cd ed_int (ea_cd ed_int ea_n))))) (ev_take (n := 4) (ev_row rfl) ed_int (by decide)) (by decide)) ea_nil)).imp ?_) (P := fun s => ∃ q, QSm q ∧ s = .dat (qD q)) ?_) fun v H' s k sv p => hq v H' s (k1.trans k) sv p
  · rintro ss ⟨s1, s2, rfl, rfl, s3, s4, rfl, ⟨d, hd, rfl⟩, rfl⟩
    simp only [List.mem_cons, List.not_mem_nil, or_false] at hd
    rcases hd with h | h | h | h <;> (subst h; exact ⟨_, by decide, by decide, rfl⟩)
  · rintro ss ⟨b, hb, hb3, rfl⟩
    refine ⟨rfl, _, ⟨t, b, rfl, hb, Nat.lt_of_le_of_lt ht (lt_pow (n := 2) (by decide) (by decide)), Nat.lt_of_le_of_lt hb3 (lt_pow (n := 2) (by decide) (by decide)), rfl⟩, fun s e => ⟨low t b, ⟨low_ok hb, ?_, ?_⟩, e⟩⟩
    · exact Nat.le_trans (natAbs_ediv_le _ _) ht
    · exact Nat.le_trans (natAbs_ediv_le _ _) hb3
theorem ok_law_added (c_law_lowest : Cl P w K mg base 1 "_law_lowest" (Con 2 A_law_lowest)) : Cl P w K mg base 2 "_law_added" (Con 3 A_added) := by
  refine mkCl T.d_law_added sc_law_added (fun _ _ _ _ _ _ us hl => match us, hl with | [_, _, _], _ => rfl) Con.len (fun f cdv A outer s H vs Q E hr h => ?_)
  obtain ⟨r, ss, PP, hl, ⟨x, y, wd, hw, rfl, hx, hy, rfl⟩, hv, rk, hq⟩ := h
  have en := En.start (N := ["_law_one", "_law_other", "_law_sign"]) hv rk
  refine ⟨_, (pss_one (ps_ret (pe_cl c_law_lowest hr (by decide) rfl (pa_cons (pe_op op_add (pe_op op_mulX (pe_ix (r := rIxT K) ix_tup (pv 0) pe_int (fun _ _ => rfl)) (pe_ix (r := rIxT K) ix_tup (pv 1) pe_int (fun _ _ => rfl))) (pe_op op_mulX (pe_op op_mulX (pv 2) (pe_ix (r := rIxT K) ix_tup (pv 1) pe_int (fun _ _ => rfl))) (pe_ix (r := rIxT K) ix_tup (pv 0) pe_int (fun _ _ => rfl)))) (pa_cons (pe_op op_mulX (pe_ix (r := rIxT K) ix_tup (pv 0) pe_int (fun _ _ => rfl)) (pe_ix (r := rIxT K) ix_tup (pv 1) pe_int (fun _ _ => rfl))) pa_nil))))), ?_⟩
  have hp := pre_le (w := wd) (N := 8401) (M := 8400) hx.2 hy.2 (by cases wd <;> decide) (by decide)
  refine s_ret en (ev_call' (ss := [.dat (.int (pre wd x y).1), .dat (.int (pre wd x y).2)]) (ea_c (Ed.is (ed_i (f := fun i j => i + j) (ed_iC (f := fun i j => i * j) (ed_ix0 (ed_var rfl)) (ed_ix1 (ed_var rfl)) (mulx hx.2.1 hy.2.2 (by decide))) (ed_iC (f := fun i j => i * j) (ed_iC (f := fun i j => i * j) (ed_var rfl) (ed_ix0 (ed_var rfl)) ?_) (ed_ix1 (ed_var rfl)) ?_)) ?_) (ea_c (Ed.is (ed_iC (f := fun i j => i * j) (ed_ix1 (ed_var rfl)) (ed_ix1 (ed_var rfl)) (mulx hx.2.2 hy.2.2 (by decide))) ?_) ea_nil)) ⟨_, _, rfl, pre_pos hx.1.1 hy.1.1, lt_pow hp.1 (by decide), lt_pow hp.2 (by decide), rfl⟩) fun v H' s k sv p => hq v H' s k sv p
  · exact mulx (n := 1) (by split <;> decide) hy.2.1 (by decide)
  · refine mulx (n := 4200) ?_ hx.2.2 (by decide)
    split
    · rw [Int.one_mul]
      exact hy.2.1
    · rw [Int.neg_mul, Int.one_mul, Int.natAbs_neg]
      exact hy.2.1
  · congr 1
    cases wd with
    | mul => exact absurd rfl hw
    | add =>
      show x.1 * y.2 + (1 * y.1) * x.2 = x.1 * y.2 + y.1 * x.2
      rw [Int.one_mul]
    | sub =>
      show x.1 * y.2 + (-1 * y.1) * x.2 = x.1 * y.2 - y.1 * x.2
      rw [Int.neg_mul, Int.one_mul, Int.neg_mul]
      exact Int.sub_eq_add_neg.symm
  · cases wd <;> rfl
theorem ok_law_product (c_law_lowest : Cl P w K mg base 1 "_law_lowest" (Con 2 A_law_lowest)) : Cl P w K mg base 2 "_law_product" (Con 2 A_product) := by
  refine mkCl T.d_law_product sc_law_product (fun _ _ _ _ _ _ us hl => match us, hl with | [_, _], _ => rfl) Con.len (fun f cdv A outer s H vs Q E hr h => ?_)
  obtain ⟨r, ss, PP, hl, ⟨x, y, rfl, hx, hy, rfl⟩, hv, rk, hq⟩ := h
  have en := En.start (N := ["_law_one", "_law_other"]) hv rk
  refine ⟨_, (pss_one (ps_ret (pe_cl c_law_lowest hr (by decide) rfl (pa_cons (pe_op op_mulX (pe_ix (r := rIxT K) ix_tup (pv 0) pe_int (fun _ _ => rfl)) (pe_ix (r := rIxT K) ix_tup (pv 1) pe_int (fun _ _ => rfl))) (pa_cons (pe_op op_mulX (pe_ix (r := rIxT K) ix_tup (pv 0) pe_int (fun _ _ => rfl)) (pe_ix (r := rIxT K) ix_tup (pv 1) pe_int (fun _ _ => rfl))) pa_nil))))), ?_⟩
  have hp := pre_le (w := .mul) (N := 8400) (M := 8400) hx.2 hy.2 (by decide) (by decide)
  refine s_ret en (ev_call' (ss := [.dat (.int (x.1 * y.1)), .dat (.int (x.2 * y.2))]) (ea_c (ed_iC (f := fun i j => i * j) (ed_ix0 (ed_var rfl)) (ed_ix0 (ed_var rfl)) (mulx hx.2.1 hy.2.1 (by decide))) (ea_c (ed_iC (f := fun i j => i * j) (ed_ix1 (ed_var rfl)) (ed_ix1 (ed_var rfl)) (mulx hx.2.2 hy.2.2 (by decide))) ea_nil)) ⟨_, _, rfl, Int.mul_pos hx.1.1 hy.1.1, lt_pow hp.1 (by decide), lt_pow hp.2 (by decide), rfl⟩) fun v H' s k sv p => hq v H' s k sv p
theorem ok_law_place (c_law_take : Cl P w K mg base 1 "_law_take" (Con 2 A_take)) : Cl P w K mg base 2 "_law_place" (Con 2 A_place) := by
  refine mkCl T.d_law_place sc_law_place (fun _ _ _ _ _ _ us hl => match us, hl with | [_, _], _ => rfl) Con.len (fun f cdv A outer s H vs Q E hr h => ?_)
  obtain ⟨r, ss, PP, hl, ⟨a, n, rfl, rfl, hn, rfl⟩, hv, rk, hq⟩ := h
  have en := En.start (N := ["_law_row_here", "_law_places"]) hv rk
  refine ⟨_, (pss_cons (ps_if (pt_cmpR op_gt (pe_cl c_law_take hr (by decide) rfl (pa_cons (pv 0) (pa_cons pe_int pa_nil))) pe_int (nomark _)) (pss_one (ps_ret (pe_op op_sub (pe_op op_sub (pv 1) pe_int) (pe_cl c_law_take hr (by decide) rfl (pa_cons (pv 0) (pa_cons (pe_callB (call_min2 rfl) (by rfl) T.b_min (by decide +kernel) (pa_cons pe_int (pa_cons (pv 1) pa_nil))) pa_nil)))))) pss_nil) (pss_one (ps_ret (pe_cl c_law_take hr (by decide) rfl (pa_cons (pv 0) (pa_cons (pv 1) pa_nil)))))), ?_⟩
  refine q_ifP (P := fun _ => True) en (et_test (ev_op (P1 := Dr 3) (P2 := fun s => s = .dat (.int 0)) (ev_take (n := 3) (ev_row rfl) ed_int (by decide)) ed_int ?_)) (fun _ H1 en k1 => ?_) fun _ H1 en k1 => ?_
  · rintro s t ⟨k, hk, rfl⟩ rfl
    intro H x y hx hy rk Q q
    exact rd_cmp (f := fun i j => decide (i > j)) H x y hx hy rk Q fun v H2 u k2 sv pu => q v H2 u k2 sv ⟨_, pu, trivial⟩
  · refine s_ret en (ev_op (P1 := fun s => s = .dat (.int ((n : Int) - 1))) (P2 := Dr (min 3 n)) (P := Dr n) (ed_i (f := fun i j => i - j) (by trivial) (by trivial)) (ev_take (n := min 3 n) (ev_row rfl) (Ed.is (ed_min ed_int (by trivial)) ?_) (by omega)) ?_) fun v H' s k sv p => hq v H' s (k1.trans k) sv p
    · unfold nD
      congr 1
      omega
    · rintro s t rfl ⟨k, hk, rfl⟩
      intro H x y hx hy rk Q q
      refine rd_int (f := fun i j => i - j) H x y hx hy rk Q fun v H2 u k2 sv pu => q v H2 u k2 sv ⟨n - 1 - k, by omega, ?_⟩
      rw [pu]
      unfold nD
      congr 2
      omega
  · exact s_ret en (ev_take (n := n) (ev_row rfl) (by trivial) hn) fun v H' s k sv p => hq v H' s (k1.trans k) sv p
end
end Zk

-- part ZU
namespace Zk
open PySem PySem.Spec PyProof.Rows L2 Zb Zr Zm
local macro_rules | `(tactic| trivial) => `(tactic| first
  | with_reducible exact ed_int | with_reducible exact ed_str | with_reducible exact ed_bl | with_reducible exact ed_non | exact ed_var rfl
  | (with_reducible refine ed_neg ?_; trivial)
  | (with_reducible refine ed_i ?_ ?_ <;> trivial)
  | (with_reducible refine ed_c ?_ ?_ <;> trivial))
section
variable {r : Option Addr} {K : PySem.W.Frag} {G : List Sl} {σ : L2.St} {H H0 : Hp} {ta to : TA} {te tb : TE} {tt : TT} {t u t1 t2 : TS} {D' : Ends} {P : Sl → Prop}
/-- both ways of an if meet -/
theorem q_ifJ (J : L2.St → Hp → Prop) {b : Bool} (e : En r H σ G) (h : Eb r tt G b) (k1 : ∀ nx : L2.St → Hp → Prop, (∀ σ' H', J σ' H' → nx σ' H') → b = true → ∀ H', En r H' σ G → Kp r H H' → t1 { D' with nx := nx } σ H') (k2 : b = false → ∀ H', En r H' σ G → Kp r H H' → J σ H') (k3 : ∀ σ' H', J σ' H' → u D' σ' H') : tSeq (tIfS tt t1 tNext) u D' σ H :=
  q_if0 e h (fun hb H' e' k' => k1 _ k3 hb H' e' k') fun hb H' e' k' => k3 _ _ (k2 hb H' e' k')
theorem q_ifJ2 (J : L2.St → Hp → Prop) {b : Bool} (e : En r H σ G) (h : Eb r tt G b) (k1 : ∀ nx : L2.St → Hp → Prop, (∀ σ' H', J σ' H' → nx σ' H') → b = true → ∀ H', En r H' σ G → Kp r H H' → t1 { D' with nx := nx } σ H') (k2 : ∀ nx : L2.St → Hp → Prop, (∀ σ' H', J σ' H' → nx σ' H') → b = false → ∀ H', En r H' σ G → Kp r H H' → t2 { D' with nx := nx } σ H') (k3 : ∀ σ' H', J σ' H' → u D' σ' H') : tSeq (tIfS tt t1 t2) u D' σ H :=
  q_if e h (fun hb H' e' k' => k1 _ k3 hb H' e' k') fun hb H' e' k' => k2 _ k3 hb H' e' k'
theorem ev_wd {tx : TE} {n : Nat} {ds : List D} (ha : Ed r te G (.tup ds)) (hd : ∀ d ∈ ds, ∃ w, d = .str (wS w)) (hb : Ev r tx G (Dr n)) (hn : n ≤ ds.length) : Ev r (tOp (rIxT K) te tx) G (fun s => ∃ w, s = .dat (.str (wS w))) :=
  (ev_pick ha hb hn).imp fun s ⟨d, h1, h2⟩ => by
    obtain ⟨w, rfl⟩ := hd d h1
    exact ⟨w, h2⟩
end
theorem qsm_zero : QSm (0, 1) := ⟨qok_zero, by decide, by decide⟩
section
variable {P : Program} {w : World} {K : PySem.W.Frag} {mg : Str → Option Value} {base : Heap} (T : Txt K mg)
include T
theorem ok_law_plainer (c_law_take : Cl P w K mg base 1 "_law_take" (Con 2 A_take)) : Cl P w K mg base 2 "_law_plainer" (Con 3 A_plainer) := by
  refine mkCl T.d_law_plainer sc_law_plainer (fun _ _ _ _ _ _ us hl => match us, hl with | [_, _, _], _ => rfl) Con.len (fun f cdv A outer s H vs Q E hr h => ?_)
  obtain ⟨r, ss, PP, hl, ⟨a, n, p, rfl, rfl, hn, rfl⟩, hv, rk, hq⟩ := h
  have en := En.start (N := ["_law_row_here", "_law_size", "_law_place_here"]) hv rk
  refine ⟨_, (pss_one (ps_ret (pe_tup (pa_cons (pe_ix (r := rIxT K) ix_tup (pe_tup (pa_cons pe_str (pa_cons pe_str (pa_cons pe_str pa_nil)))) (pe_cl c_law_take hr (by decide) rfl (pa_cons (pv 0) (pa_cons pe_int pa_nil))) (fun _ _ => rfl)) (pa_cons (pv 2) (pa_cons (pe_cl c_law_take hr (by decide) rfl (pa_cons (pv 0) (pa_cons (pv 1) pa_nil))) pa_nil)))))), ?_⟩
  refine s_ret en (ev_tup (PP := fun ds => ∃ w k, k < n ∧ ds = [.str (wS w), nD p, nD k]) ((ea_cons (ev_wd (n := 3) (ds := [.str "add", .str "sub", .str "mul"]) (ed_tup (ea_cd ed_str (ea_cd ed_str (ea_cd ed_str ea_n)))) ?_ (ev_take (n := 3) (ev_row rfl) ed_int (by decide)) (by decide)) (ea_cons (P := fun s => s = .dat (nD p)) (by trivial) (ea_cons (ev_take (n := n) (ev_row rfl) (by trivial) hn) ea_nil))).imp ?_) (by rintro _ ⟨w, k, _, rfl⟩; exact Nat.le_of_ble_eq_true rfl)) fun v H' s k sv p => hq v H' s k sv ?_
  · intro d hd
    simp only [List.mem_cons, List.not_mem_nil, or_false] at hd
    rcases hd with h | h | h
    · exact ⟨.add, h⟩
    · exact ⟨.sub, h⟩
    · exact ⟨.mul, h⟩
  · rintro ss ⟨s1, s2, rfl, ⟨w, rfl⟩, s3, s4, rfl, rfl, s5, s6, rfl, ⟨k, hk, rfl⟩, rfl⟩
    exact ⟨[.str (wS w), nD p, nD k], rfl, w, k, hk, rfl⟩
  · obtain ⟨ds, rfl, w, k, hk, rfl⟩ := p
    exact ⟨w, k, hk, rfl⟩
theorem ok_law_line (c_law_take : Cl P w K mg base 1 "_law_take" (Con 2 A_take)) (c_law_quotient : Cl P w K mg base 2 "_law_quotient" (Con 1 A_quotient)) (c_law_place : Cl P w K mg base 2 "_law_place" (Con 2 A_place)) : Cl P w K mg base 3 "_law_line" (Con 3 A_line) := by
  refine mkCl T.d_law_line sc_law_line (fun _ _ _ _ _ _ us hl => match us, hl with | [_, _, _], _ => rfl) Con.len (fun f cdv A outer s H vs Q E hr h => ?_)
  obtain ⟨r, ss, PP, hl, ⟨a, v, n, vd, rfl, rfl, hn, hvd, rfl⟩, hv, rk, hq⟩ := h
  have en := En.start (N := ["_law_row_here", "_law_places", "_law_voids", "_law_kind", "_law_one", "_law_other", "_law_word"]) hv rk
  refine ⟨_, (pss_cons (ps_set (i := 3) sc_law_line.nd rfl (Or.inl rfl) (pe_cl c_law_take hr (by decide) rfl (pa_cons (pv 0) (pa_cons pe_int pa_nil)))) (pss_cons (ps_if (PW.pt (pw_or (pt_cmpR op_eq (pv 3) pe_int (nomark _)) (pw_or1 (PW.pt (pw_and (pt_cmpR (r := rIn K false) op_in_seq (pv 3) (pe_tup (pa_cons pe_int (pa_cons pe_int (pa_cons pe_int pa_nil)))) (by rfl)) (pw_and1 (pt_cmpR op_eq (pe_callB (r := cLen K) call_len_seq (by rfl) T.b_len (by decide +kernel) (pa_cons (pv 2) pa_nil)) pe_int (nomark _)))))))) (pss_one (ps_ret (pe_tup (pa_cons pe_str (pa_cons (pe_tup (pa_cons pe_int (pa_cons pe_int pa_nil))) pa_nil))))) pss_nil) (pss_cons (ps_if (pt_cmpR op_eq (pv 3) pe_int (nomark _)) (pss_one (ps_ret (pe_tup (pa_cons pe_str (pa_cons (pe_cl c_law_quotient hr (by decide) rfl (pa_cons (pv 0) pa_nil)) pa_nil))))) pss_nil) (pss_cons (ps_par (i := 4) (j := 5) rfl sc_law_line.nd rfl rfl (by decide) rfl rfl (pa_cons (pe_cl c_law_place hr (by decide) rfl (pa_cons (pv 0) (pa_cons (pv 1) pa_nil))) (pa_cons (pe_cl c_law_place hr (by decide) rfl (pa_cons (pv 0) (pa_cons (pv 1) pa_nil))) pa_nil)) (by rfl)) (pss_cons (ps_if (PW.pt (pw_or (pt_cmpR op_eq (pv 3) pe_int (nomark _)) (pw_or1 (pt_cmpR op_eq (pv 3) pe_int (nomark _))))) (pss_one (ps_set (i := 5) sc_law_line.nd rfl (Or.inl rfl) (pv 4))) pss_nil) (pss_cons (ps_set (i := 6) sc_law_line.nd rfl (Or.inl rfl) (pe_ix (r := rIxT K) ix_tup (pe_tup (pa_cons pe_str (pa_cons pe_str (pa_cons pe_str pa_nil)))) (pe_cl c_law_take hr (by decide) rfl (pa_cons (pv 0) (pa_cons pe_int pa_nil))) (fun _ _ => rfl))) (pss_cons (ps_if (PW.pt (pw_and (pt_cmpR op_gt (pv 3) pe_int (nomark _)) (pw_and1 (pt_cmpR op_gt (pe_callB (r := cLen K) call_len_seq (by rfl) T.b_len (by decide +kernel) (pa_cons (pv 2) pa_nil)) pe_int (nomark _))))) (pss_cons (ps_set (i := 5) sc_law_line.nd rfl (Or.inl rfl) (pe_ix (r := rIxL K) ix_list (pv 2) (pe_cl c_law_take hr (by decide) rfl (pa_cons (pv 0) (pa_cons (pe_callB (r := cLen K) call_len_seq (by rfl) T.b_len (by decide +kernel) (pa_cons (pv 2) pa_nil)) pa_nil))) (fun _ _ => rfl))) (pss_one (ps_set (i := 6) sc_law_line.nd rfl (Or.inl rfl) (pe_ix (r := rIxT K) ix_tup (pe_tup (pa_cons pe_str (pa_cons pe_str (pa_cons pe_str (pa_cons pe_str (pa_cons pe_str (pa_cons pe_str (pa_cons pe_str (pa_cons pe_str (pa_cons pe_str pa_nil)))))))))) (pe_op op_sub (pv 3) pe_int) (fun _ _ => rfl))))) pss_nil) (pss_cons (ps_if (pt_cmpR op_gt (pv 3) pe_int (nomark _)) (pss_one (ps_ret (pe_tup (pa_cons (pv 6) (pa_cons (pv 5) (pa_cons (pv 4) pa_nil)))))) pss_nil) (pss_one (ps_ret (pe_tup (pa_cons (pv 6) (pa_cons (pv 4) (pa_cons (pv 5) pa_nil)))))))))))))), ?_⟩
  refine q_setP en (ev_take (n := 24) (ev_row rfl) ed_int (by decide)) fun s1 σ1 H1 p1 en k1 => ?_
  obtain ⟨kd, hkd, rfl⟩ := p1
  have ek : ∀ m : Nat, (decide ((kd : Int) = (m : Int))) = decide (kd = m) := fun m => by
    by_cases h : kd = m
    · simp [h]
    · have : ¬ ((kd : Int) = (m : Int)) := by omega
      simp [h, this]
  have eg : ∀ m : Nat, (decide ((kd : Int) > (m : Int))) = decide (kd > m) := fun m => by
    by_cases h : kd > m
    · have : (kd : Int) > (m : Int) := by omega
      simp [h, this]
    · have : ¬ ((kd : Int) > (m : Int)) := by omega
      simp [h, this]
  refine q_if0 en (eb_or (eb_test (ed_eqI (by trivial) (by trivial))) fun _ => eb_and (eb_test (ed_in (ns := [1, 5, 6]) (by trivial) (ed_tup (ea_cd ed_int (ea_cd ed_int (ea_cd ed_int ea_n)))))) fun _ => eb_test (ed_eqI (ed_lenL (ev_var rfl)) ed_int)) (fun _ H2 en k2 => ?_) fun hc H2 en k2 => ?_
  · exact s_ret en (ed_tup (ds := [.str "num", .tup [.int 0, .int 1]]) (ea_cd ed_str (ea_cd (ed_tup (ea_cd ed_int (ea_cd ed_int ea_n))) ea_n))) fun v H' s k sv p => hq v H' s ((k1.trans k2).trans k) sv ⟨.num (0, 1), qsm_zero, p⟩
  replace k2 := k1.trans k2
  refine q_if0 en (eb_test (ed_eqI (by trivial) (by trivial))) (fun _ H3 en k3 => ?_) fun _ H3 en k3 => ?_
  · refine s_ret en (ev_tup (PP := fun ds => ∃ q, QSm q ∧ ds = [.str "num", qD q]) ((ea_cons (P := fun s => s = .dat (.str "num")) ed_str (ea_cons (ev_call' (ss := [.row a]) (ea_c (ev_row rfl) ea_nil) ⟨a, rfl, rfl, rfl⟩) ea_nil)).imp ?_) (by rintro _ ⟨q, _, rfl⟩; exact Nat.le_of_ble_eq_true rfl)) fun v H' s k sv p => hq v H' s ((k2.trans k3).trans k) sv ?_
    · rintro ss ⟨s1, s2, rfl, rfl, s3, s4, rfl, ⟨q, hq, rfl⟩, rfl⟩
      exact ⟨[.str "num", qD q], rfl, q, hq, rfl⟩
    · obtain ⟨ds, rfl, q, hq, rfl⟩ := p
      exact ⟨.num q, hq, rfl⟩
  replace k3 := k2.trans k3
  have cp : ∀ {r : Option Addr} {G : List Sl} {E : XK} {t1 t2 : TE}, r = some a → Ev r t1 G (fun x => x = .row a) → Ed r t2 G (nD n) → Ev r (tCall (Con 2 A_place) [] E (tCons t1 (tCons t2 tNil))) G (Dr n) := fun e h1 h2 => ev_call' (ss := [.row a, .dat (nD n)]) (ea_c h1 (ea_c h2 ea_nil)) ⟨a, n, e, rfl, hn, rfl⟩
  refine q_parP (PP := fun s1 s2 => ∃ p q, p < n ∧ q < n ∧ s1 = .dat (nD p) ∧ s2 = .dat (nD q)) en ((ea_cons (cp rfl (ev_row rfl) (by trivial)) (ea_cons (cp rfl (ev_row rfl) (by trivial)) ea_nil)).imp ?_) fun s1 s2 σ4 H4 p4 en k4 => ?_
  · rintro ss ⟨s1, s2, rfl, ⟨p, hp, rfl⟩, s3, s4, rfl, ⟨q, hq, rfl⟩, rfl⟩
    exact ⟨_, _, rfl, p, q, hp, hq, rfl, rfl⟩
  obtain ⟨p, q, hp, hqn, rfl, rfl⟩ := p4
  replace k4 := k3.trans k4
  refine q_ifJ (fun σ' H' => ∃ p q, p < n ∧ q < n ∧ En (some a) H' σ' [.row a, .dat (nD n), .lst v (vd.map nD), .dat (nD kd), .dat (nD p), .dat (nD q), .any] ∧ Kp (some a) H H') en (eb_or (eb_test (ed_eqI (by trivial) (by trivial))) fun _ => eb_test (ed_eqI (by trivial) (by trivial))) (fun nx hnx _ H5 en k5 => ?_) (fun _ H5 en k5 => ⟨p, q, hp, hqn, en, k4.trans k5⟩) fun σ5 H5 h5 => ?_
  · exact s_set en (by trivial) fun σ6 H6 en k6 => hnx _ _ ⟨p, p, hp, hp, en, (k4.trans k5).trans k6⟩
  obtain ⟨p, q, hp, hqn, en, k5⟩ := h5
  refine q_setP en (ev_wd (n := 3) (ds := [.str "add", .str "sub", .str "mul"]) (ed_tup (ea_cd ed_str (ea_cd ed_str (ea_cd ed_str ea_n)))) ?_ (ev_take (n := 3) (ev_row rfl) ed_int (by decide)) (by decide)) fun s6 σ6 H6 p6 en k6 => ?_
  · intro d hd
    simp only [List.mem_cons, List.not_mem_nil, or_false] at hd
    rcases hd with h | h | h
    · exact ⟨.add, h⟩
    · exact ⟨.sub, h⟩
    · exact ⟨.mul, h⟩
  obtain ⟨wd, rfl⟩ := p6
  replace k6 := k5.trans k6
  refine q_ifJ (fun σ' H' => ∃ p q w, p < n ∧ q < n ∧ En (some a) H' σ' [.row a, .dat (nD n), .lst v (vd.map nD), .dat (nD kd), .dat (nD p), .dat (nD q), .dat (.str (wS w))] ∧ Kp (some a) H H') en (eb_and (eb_test (ed_c (f := fun i j => decide (i > j)) (by trivial) (by trivial))) fun _ => eb_test (ed_c (f := fun i j => decide (i > j)) (ed_lenL (ev_var rfl)) ed_int)) (fun nx hnx hb H7 en k7 => ?_) (fun _ H7 en k7 => ⟨p, q, wd, hp, hqn, en, k6.trans k7⟩) fun σ7 H7 h7 => ?_
  · rw [Bool.and_eq_true] at hb
    have h1 : 14 < kd := by
      have := of_decide_eq_true hb.1
      omega
    have h2 : 0 < vd.length := by
      have := of_decide_eq_true hb.2
      rw [List.length_map] at this
      omega
    refine q_setP en (ev_pickL (n := vd.length) (ev_var rfl) (ev_take (n := vd.length) (ev_row rfl) (Ed.is (ed_lenL (ev_var rfl)) (by rw [List.length_map]; rfl)) h2) (by rw [List.length_map]; exact Nat.le_refl _)) fun s8 σ8 H8 p8 en k8 => ?_
    obtain ⟨d, hd, rfl⟩ := p8
    obtain ⟨q', hq', rfl⟩ := List.mem_map.mp hd
    refine s_setP en (ev_wd (n := 9) (ds := [.str "mul", .str "sub", .str "mul", .str "add", .str "mul", .str "mul", .str "sub", .str "mul", .str "add"]) (ed_tup (ea_cd ed_str (ea_cd ed_str (ea_cd ed_str (ea_cd ed_str (ea_cd ed_str (ea_cd ed_str (ea_cd ed_str (ea_cd ed_str (ea_cd ed_str ea_n)))))))))) ?_ ((ed_i (f := fun i j => i - j) (ed_var rfl) ed_int).imp fun s e => ⟨kd - 15, by omega, ?_⟩) (by decide)) fun s9 σ9 H9 p9 en k9 => ?_
    · intro d hd
      simp only [List.mem_cons, List.not_mem_nil, or_false] at hd
      rcases hd with h | h | h | h | h | h | h | h | h
      · exact ⟨.mul, h⟩
      · exact ⟨.sub, h⟩
      · exact ⟨.mul, h⟩
      · exact ⟨.add, h⟩
      · exact ⟨.mul, h⟩
      · exact ⟨.mul, h⟩
      · exact ⟨.sub, h⟩
      · exact ⟨.mul, h⟩
      · exact ⟨.add, h⟩
    · rw [e]
      unfold nD
      congr 2
      omega
    · obtain ⟨w9, rfl⟩ := p9
      exact hnx _ _ ⟨p, q', w9, hp, hvd q' hq', en, ((k6.trans k7).trans k8).trans k9⟩
  obtain ⟨p, q, wd, hp, hqn, en, k7⟩ := h7
  refine q_if0 en (eb_test (ed_c (f := fun i j => decide (i > j)) (by trivial) (by trivial))) (fun _ H8 en k8 => ?_) fun _ H8 en k8 => ?_
  · exact s_ret en (ed_tup (ds := [.str (wS wd), nD q, nD p]) (ea_cd (by trivial) (ea_cd (by trivial) (ea_cd (by trivial) ea_n)))) fun v H' s k sv e => hq v H' s ((k7.trans k8).trans k) sv ⟨.op wd q p, ⟨hqn, hp⟩, e⟩
  · exact s_ret en (ed_tup (ds := [.str (wS wd), nD p, nD q]) (ea_cd (by trivial) (ea_cd (by trivial) (ea_cd (by trivial) ea_n)))) fun v H' s k sv e => hq v H' s ((k7.trans k8).trans k) sv ⟨.op wd p q, ⟨hp, hqn⟩, e⟩
end
end Zk

-- part ZV
namespace Zk
open PySem PySem.Spec PyProof.Rows L2 Zb Zr Zm
def lsD (ls : List Ln) : D := .tup (ls.map lD)
def prD (n : Nat) (ls : List Ln) : D := .tup [nD n, lsD ls]
def loD (l : List Nat) : D := .tup (l.map nD)
def oD : Option Qt → D
  | none => .non
  | some q => qD q
theorem getE_map {α β : Type} {f : α → β} {l : List α} {i : Nat} {d : β} (h : (l.map f)[i]? = some d) : ∃ x, l[i]? = some x ∧ d = f x := by
  rw [List.getElem?_map] at h
  obtain ⟨x, h1, h2⟩ := Option.map_eq_some_iff.mp h
  exact ⟨x, h1, h2.symm⟩
theorem get_map {α β : Type} {f : α → β} {l : List α} {i : Nat} {d : α} (h : i < l.length) : (l.map f)[i]? = some (f (l.getD i d)) := by
  rw [List.getElem?_map, List.getD_eq_getElem?_getD, List.getElem?_eq_getElem h]
  rfl
theorem compL_all {α : Type} {v : α → D} {l : List α} : compL (fun _ => true) v l = l.map v := by
  unfold compL
  congr 1
  exact List.filter_eq_self.mpr fun _ _ => rfl
section
variable {r : Option Addr} {K : PySem.W.Frag} {w : World} {G : List Sl} {σ : L2.St} {H H0 : Hp} {ta : TA} {te tb t1 t2 t3 : TE} {tt : TT} {u : TS} {D' : Ends} {i j l : Nat}
theorem En.drops : ∀ (is : List Nat) {G : List Sl}, En r H σ G → En r H σ (is.foldl (fun G i => G.set i .any) G)
  | [], _, e => e
  | i :: is, _, e => En.drops is (e.drop i)
theorem eb_yes : Eb r tYes G true := fun σ H e Q q => q true H (Kp.refl r H) rfl
theorem ev_of {P : List D → Prop} (h : El r te G P) : Ev r te G (fun s => ∃ p ds, s = .lst p ds ∧ P ds) := fun σ H e Q q => h σ H e _ fun p H2 ds hp np k2 hl pd => q _ H2 _ k2 (.lst np hl) ⟨p, ds, rfl, pd⟩
theorem ls_ne {p q : Addr} {ds : List D} (h : Ls H p ds) (h2 : H q = none) : p ≠ q := fun z => by
  obtain ⟨xs, e, _⟩ := h
  rw [z, h2] at e
  cases e
theorem q_par2L {P1 P2 : List D → Prop} (e : En r H σ G) (h1 : El r t1 G P1) (h2 : El r t2 G P2) (k : ∀ p q ds es σ' H', H p = none → H q = none → p ≠ q → P1 ds → P2 es → En r H' σ' ((G.set i (.lst p ds)).set j (.lst q es)) → Kp r H H' → u D' σ' H') : tSeq (tPar i j (tCons t1 (tCons t2 tNil))) u D' σ H :=
  h1 σ H e _ fun p H2 ds hp np k2 hl pd => h2 σ H2 (e.mono k2) _ fun q H3 es hq nq k3 hl2 pe =>
    ⟨_, _, rfl, k p q ds es _ H3 hp (k2.fresh hq) (ls_ne hl hq) pd pe (((e.mono (k2.trans k3)).set i (.lst np (k3.ls np hl))).set j (.lst nq hl2)) (k2.trans k3)⟩
theorem q_parDL {d : D} {P2 : List D → Prop} (e : En r H σ G) (h1 : Ed r t1 G d) (h2 : El r t2 G P2) (k : ∀ q es σ' H', H q = none → P2 es → En r H' σ' ((G.set i (.dat d)).set j (.lst q es)) → Kp r H H' → u D' σ' H') : tSeq (tPar i j (tCons t1 (tCons t2 tNil))) u D' σ H :=
  h1 σ H e _ fun v H2 s k2 sv ps => h2 σ H2 (e.mono k2) _ fun q H3 es hq nq k3 hl2 pe => by
    subst ps
    exact ⟨_, _, rfl, k q es _ H3 (k2.fresh hq) pe (((e.mono (k2.trans k3)).set i (sv.mono k3)).set j (.lst nq hl2)) (k2.trans k3)⟩
/-! == of what may be a number, of a lot -/
theorem oD_nod (o : Option Qt) : (oD o).nod = true := by cases o <;> rfl
theorem oD_shaped (o : Option Qt) : SeqAt.shaped (oD o).pd = true := by cases o <;> rfl
theorem ints_nods : ∀ l : List Nat, nods (l.map nD) = true
  | [] => rfl
  | n :: l => by
    show (true && nods (l.map nD)) = true
    rw [ints_nods l]
    rfl
theorem ints_lay : ∀ l : List Nat, PyData.canLayAll0 (pds (l.map nD)) = true
  | [] => rfl
  | n :: l => by
    show (true && PyData.canLayAll0 (pds (l.map nD))) = true
    rw [ints_lay l]
    rfl
theorem ints_depth : ∀ l : List Nat, PyData.depthAll (pds (l.map nD)) = 0
  | [] => rfl
  | n :: l => by
    show max 0 (PyData.depthAll (pds (l.map nD))) = 0
    rw [ints_depth l]
    rfl
theorem loD_shaped (l : List Nat) : SeqAt.shaped (loD l).pd = true := by
  show (PyData.canLayAll0 (pds (l.map nD)) && decide (PyData.depthAll (pds (l.map nD)) + 1 ≤ 64)) = true
  rw [ints_lay, ints_depth]
  rfl
theorem eqv_q (o : Option Qt) : PyData.eqv (oD o).pd (qD (0, 1)).pd = isZ o := by
  cases o with
  | none => rfl
  | some q =>
    obtain ⟨a, b⟩ := q
    show ((a == 0) && ((b == 1) && true)) = decide (some (a, b) = some ((0 : Int), (1 : Int)))
    by_cases h1 : a = 0 <;> by_cases h2 : b = 1 <;> simp [h1, h2]
theorem eqv_e (l : List Nat) : PyData.eqv (loD l).pd (D.tup []).pd = l.isEmpty := by cases l <;> rfl
theorem ed_eqQ {o : Option Qt} (h : Ed r te G (oD o)) (h2 : Ed r tb G (qD (0, 1))) : Ed r (tOp (rEqD K) te tb) G (.bl (isZ o)) :=
  (ed_eqD h h2 (oD_nod o) rfl (oD_shaped o) rfl).is (by rw [eqv_q])
theorem ed_eqU {l : List Nat} (h : Ed r te G (loD l)) (h2 : Ed r tb G (.tup [])) : Ed r (tOp (rEqD K) te tb) G (.bl l.isEmpty) :=
  (ed_eqD h h2 (ints_nods l) rfl (loD_shaped l) rfl).is (by rw [eqv_e])
theorem ed_q01 : Ed r (tTup (tCons (tC (.int 0)) (tCons (tC (.int 1)) tNil))) G (qD (0, 1)) := ed_tup (ds := [.int 0, .int 1]) (ea_cd ed_int (ea_cd ed_int ea_n))
theorem ed_t0 : Ed r (tTup tNil) G (.tup []) := ed_tup (ds := []) ea_n
/-- the union, sorted -/
theorem map_ints (ms : List Int) (h : ∀ k ∈ ms, 0 ≤ k) : ms.map D.int = (ms.map Int.toNat).map nD := by
  rw [List.map_map]
  refine List.map_congr_left fun k hk => ?_
  have := h k hk
  show D.int k = D.int ((k.toNat : Nat) : Int)
  congr 1
  omega
theorem sorted_un {a b : List Nat} (ha : ∀ k ∈ a, k < 8) (hb : ∀ k ∈ b, k < 8) {ms : List Int} (h1 : ms.Pairwise (· < ·)) (h2 : ∀ k, k ∈ ms ↔ k ∈ (a ++ b).map fun n : Nat => (n : Int)) : ms.map D.int = (un a b).map nD := by
  have h0 : ∀ k ∈ ms, 0 ≤ k := fun k hk => by
    obtain ⟨n, _, e⟩ := List.mem_map.mp ((h2 k).mp hk)
    omega
  rw [map_ints ms h0]
  congr 1
  refine rise_ext ?_ (un_rise a b) fun k => ?_
  · rw [List.pairwise_map]
    refine List.Pairwise.imp_of_mem (fun {x y} hx hy hxy => ?_) h1
    have := h0 x hx
    have := h0 y hy
    omega
  · rw [mem_un]
    constructor
    · intro hk
      obtain ⟨m, hm, rfl⟩ := List.mem_map.mp hk
      obtain ⟨n, hn, e⟩ := List.mem_map.mp ((h2 m).mp hm)
      have : m.toNat = n := by omega
      rw [this]
      rcases List.mem_append.mp hn with z | z
      · exact ⟨ha n z, .inl z⟩
      · exact ⟨hb n z, .inr z⟩
    · rintro ⟨_, hk⟩
      refine List.mem_map.mpr ⟨(k : Int), (h2 k).mpr (List.mem_map.mpr ⟨k, List.mem_append.mpr hk, rfl⟩), by omega⟩
end
end Zk

-- part ZP
namespace Zk
open PySem PySem.Spec PyProof.Rows L2 Zb Zr Zm
local macro_rules | `(tactic| trivial) => `(tactic| first
  | with_reducible exact ed_int | with_reducible exact ed_str | with_reducible exact ed_bl | with_reducible exact ed_non | exact ed_var rfl
  | (with_reducible refine ed_neg ?_; trivial)
  | (with_reducible refine ed_i ?_ ?_ <;> trivial)
  | (with_reducible refine ed_c ?_ ?_ <;> trivial))
def A_line_value : CA := fun _ ss P => ∃ (l : Ln) (p : Addr) (vs : List Qt), ss = [.dat (lD l), .lst p (vs.map qD)] ∧ LnOk vs.length l ∧ (∀ q ∈ vs, QB q) ∧ P = fun s => s = .dat (qD (vst vs l))
def A_run_lines : CA := fun _ ss P => ∃ n ls pt, ss = [.dat (prD n ls), .dat (.tup (pt.map qD))] ∧ PrOk n ls ∧ PtOk n pt ∧ P = fun s => s = .dat (.tup (((vrun pt ls).drop n).map qD))
def A_carried_all : CA := fun _ ss P => ∃ n ls, ss = [.dat (prD n ls)] ∧ PrOk n ls ∧ P = fun s => ∃ s1 s2, s = .tl [s1, s2] ∧ ∃ p q, s1 = .lst p ((call n ls).1.map loD) ∧ s2 = .lst q ((call n ls).2.map oD)
section
variable {P : Program} {w : World} {K : PySem.W.Frag} {mg : Str → Option Value} {base : Heap} (T : Txt K mg)
include T
theorem ok_line_value (c_plus : Cl P w K mg base 3 "plus" (Con 2 (A_op .add))) (c_minus : Cl P w K mg base 3 "minus" (Con 2 (A_op .sub))) (c_times : Cl P w K mg base 3 "times" (Con 2 (A_op .mul))) : Cl P w K mg base 4 "_line_value" (Con 2 A_line_value) := by
  refine mkCl T.d_line_value sc_line_value (fun _ _ _ _ _ _ us hl => match us, hl with | [_, _], _ => rfl) Con.len (fun f cdv A outer s H vs Q E hr h => ?_)
  obtain ⟨r, ss, PP, hl, ⟨l, p, qs, rfl, hok, hb, rfl⟩, hv, rk, hq⟩ := h
  have en := En.start (N := ["line", "found", "one", "other"]) hv rk
  refine ⟨_, (pss_cons (ps_if (pt_cmpR op_eq (pe_ix (r := rIxT K) ix_tup (pv 0) pe_int (fun _ _ => rfl)) pe_str (nomark _)) (pss_one (ps_ret (pe_ix (r := rIxT K) ix_tup (pv 0) pe_int (fun _ _ => rfl)))) pss_nil) (pss_cons (ps_if (pt_cmpR op_eq (pe_ix (r := rIxT K) ix_tup (pv 0) pe_int (fun _ _ => rfl)) pe_str (nomark _)) (pss_one ps_never) pss_nil) (pss_cons (ps_par (i := 2) (j := 3) rfl sc_line_value.nd rfl rfl (by decide) rfl rfl (pa_cons (pe_ix (r := rIxL K) ix_list (pv 1) (pe_ix (r := rIxT K) ix_tup (pv 0) pe_int (fun _ _ => rfl)) (fun _ _ => rfl)) (pa_cons (pe_ix (r := rIxL K) ix_list (pv 1) (pe_ix (r := rIxT K) ix_tup (pv 0) pe_int (fun _ _ => rfl)) (fun _ _ => rfl)) pa_nil)) (by rfl)) (pss_cons (ps_if (pt_cmpR op_eq (pe_ix (r := rIxT K) ix_tup (pv 0) pe_int (fun _ _ => rfl)) pe_str (nomark _)) (pss_one (ps_ret (pe_cl c_plus hr (by decide) rfl (pa_cons (pv 2) (pa_cons (pv 3) pa_nil))))) pss_nil) (pss_cons (ps_if (pt_cmpR op_eq (pe_ix (r := rIxT K) ix_tup (pv 0) pe_int (fun _ _ => rfl)) pe_str (nomark _)) (pss_one (ps_ret (pe_cl c_minus hr (by decide) rfl (pa_cons (pv 2) (pa_cons (pv 3) pa_nil))))) pss_nil) (pss_one (ps_ret (pe_cl c_times hr (by decide) rfl (pa_cons (pv 2) (pa_cons (pv 3) pa_nil)))))))))), ?_⟩
  cases l with
  | num q =>
    refine q_take en ((eb_test (ed_eqS (ed_ix0 (ds := [qD q]) (ed_var rfl)) ed_str)).is (by decide +kernel)) fun H1 en k1 => ?_
    exact s_ret en (ed_ix1 (c := .str "num") (ds := []) (ed_var rfl)) fun v H' s k sv p => hq v H' s (k1.trans k) sv p
  | op wd a b =>
    have v0 : ∀ {G : List Sl}, G[0]? = some (.dat (lD (.op wd a b))) → ∀ {te : TE}, te = tVar 0 → Ed r te G (.tup (.str (wS wd) :: nD a :: nD b :: [])) := fun h _ e => by subst e; exact ed_var h
    refine q_pass en ((eb_test (ed_eqS (ed_ix0 (v0 rfl rfl)) ed_str)).is (by cases wd <;> decide +kernel)) fun H1 en k1 => ?_
    refine q_pass en ((eb_test (ed_eqS (ed_ix0 (v0 rfl rfl)) ed_str)).is (by cases wd <;> decide +kernel)) fun H2 en k2 => ?_
    refine q_par en (ea_c (ed_ixL (ev_var rfl) (ed_ix1 (v0 rfl rfl)) (get_map (d := (0, 1)) hok.1)) (ea_c (ed_ixL (ev_var rfl) (ed_ix2 (v0 rfl rfl)) (get_map (d := (0, 1)) hok.2)) ea_nil)) fun σ3 H3 en k3 => ?_
    replace k3 := (k1.trans k2).trans k3
    have qa := hb _ (getD_mem (d := ((0 : Int), (1 : Int))) hok.1)
    have qb := hb _ (getD_mem (d := ((0 : Int), (1 : Int))) hok.2)
    cases wd with
    | add =>
      refine q_take en ((eb_test (ed_eqS (ed_ix0 (v0 rfl rfl)) ed_str)).is (by decide +kernel)) fun H4 en k4 => ?_
      exact s_ret en (ev_call' (ea_c (ed_var rfl) (ea_c (ed_var rfl) ea_nil)) ⟨_, _, rfl, qa, qb, rfl⟩) fun v H' s k sv p => hq v H' s ((k3.trans k4).trans k) sv p
    | sub =>
      refine q_pass en ((eb_test (ed_eqS (ed_ix0 (v0 rfl rfl)) ed_str)).is (by decide +kernel)) fun H4 en k4 => ?_
      refine q_take en ((eb_test (ed_eqS (ed_ix0 (v0 rfl rfl)) ed_str)).is (by decide +kernel)) fun H5 en k5 => ?_
      exact s_ret en (ev_call' (ea_c (ed_var rfl) (ea_c (ed_var rfl) ea_nil)) ⟨_, _, rfl, qa, qb, rfl⟩) fun v H' s k sv p => hq v H' s (((k3.trans k4).trans k5).trans k) sv p
    | mul =>
      refine q_pass en ((eb_test (ed_eqS (ed_ix0 (v0 rfl rfl)) ed_str)).is (by decide +kernel)) fun H4 en k4 => ?_
      refine q_pass en ((eb_test (ed_eqS (ed_ix0 (v0 rfl rfl)) ed_str)).is (by decide +kernel)) fun H5 en k5 => ?_
      exact s_ret en (ev_call' (ea_c (ed_var rfl) (ea_c (ed_var rfl) ea_nil)) ⟨_, _, rfl, qa, qb, rfl⟩) fun v H' s k sv p => hq v H' s (((k3.trans k4).trans k5).trans k) sv p
theorem ok_run_lines (c_is_point : Cl P w K mg base 3 "is_point" (Con 2 A_is_point)) (c_line_value : Cl P w K mg base 4 "_line_value" (Con 2 A_line_value)) : Cl P w K mg base 5 "run_lines" (Con 2 A_run_lines) := by
  refine mkCl T.d_run_lines sc_run_lines (fun _ _ _ _ _ _ us hl => match us, hl with | [_, _], _ => rfl) Con.len (fun f cdv A outer s H vs Q E hr h => ?_)
  obtain ⟨r, ss, PP, hl, ⟨n, ls, pt, rfl, hp, hpt, rfl⟩, hv, rk, hq⟩ := h
  have en := En.start (N := ["program", "point", "size", "lines", "found", "line"]) hv rk
  refine ⟨_, (pss_cons (ps_asg (pv 0) (pg_tup (n := 2) rfl (pgs_cons (pg_name (i := 2) sc_run_lines.nd rfl (Or.inl rfl)) (pgs_cons (pg_name (i := 3) sc_run_lines.nd rfl (Or.inl rfl)) pgs_nil)))) (pss_cons (ps_if (pt_not (pt_val (pe_cl c_is_point hr (by decide) rfl (pa_cons (pv 2) (pa_cons (pv 1) pa_nil))))) (pss_one ps_never) pss_nil) (pss_cons (ps_set (i := 4) sc_run_lines.nd rfl (Or.inl rfl) (pe_callTy call_list_of (by rfl) T.b_list (by decide +kernel) (pa_cons (pv 1) pa_nil))) (pss_cons (ps_for PassesOwn.never rfl (pi_tup (pv 3)) (pg_name (i := 5) sc_run_lines.nd rfl (Or.inl rfl)) (pss_one (ps_expr (pe_bm PySem.F.plainAttrs_list PySem.F.slot_list_append PySem.F.type_list_append mt_append (pv 4) (pa_cons (pe_cl c_line_value hr (by decide) rfl (pa_cons (pv 5) (pa_cons (pv 4) pa_nil))) pa_nil))))) (pss_one (ps_ret (pe_tupleOf rfl T.b_tuple (pe_slice sl_list (pv 4) (po_some (pv 2)) po_none)))))))), ?_⟩
  have n8 := hp.n8
  have m60 := hp.m60
  refine q_two (d1 := nD n) (d2 := lsD ls) en (ed_var rfl) fun σ1 H1 en k1 => ?_
  refine q_pass en ((eb_not (eb_B (ev_call' (ss := [.dat (nD n), .dat (.tup (pt.map qD))]) (ea_c (ed_var rfl) (ea_c (ed_var rfl) ea_nil)) ⟨n, pt, rfl, hpt.1, by omega, fun q hq => (hpt.2 q hq).1, rfl⟩))).is rfl) fun H2 en k2 => ?_
  refine q_setL en (el_cb (ss := [.dat (.tup (pt.map qD))]) (ea_c (ed_var rfl) ea_nil) rl_listOf) fun p ds σ3 H3 hp3 np pd en k3 => ?_
  subst pd
  replace k3 := (k1.trans k2).trans k3
  have hp0 : H p = none := (k1.trans k2).fresh hp3
  refine q_seq (l_tup (ds := ls.map lD) en (ed_var rfl) (fun Hb i σ' H' => ∃ g, En r H' σ' [.dat (prD n ls), .dat (.tup (pt.map qD)), .dat (nD n), .dat (lsD ls), .lst p ((vrun pt (ls.take i)).map qD), g] ∧ Kp r H H' ∧ Kx Hb H') (fun Hb en k => ⟨_, en, k3.trans k, Kx.refl _⟩) (fun Hb i σ' H' ⟨g, _, _, k⟩ => k) (fun Hb i d v σ' H' kb hd hdt ⟨g, en, k, kx⟩ => ?_) fun Hb σ' H' kb ⟨g, en, k, kx⟩ => ?_)
  · obtain ⟨l, hl1, rfl⟩ := getE_map hd
    have en' := en.set 5 (.dat hdt)
    have hlen := vrun_len pt (ls.take i)
    have hi := (List.getElem?_eq_some_iff.mp hl1).1
    have hlt : (ls.take i).length = i := by rw [List.length_take]; omega
    rw [hpt.1, hlt] at hlen
    refine s_app en' rfl (ev_call' (ss := [.dat (lD l), .lst p ((vrun pt (ls.take i)).map qD)]) (ea_c (ed_var rfl) (ea_c (ev_var rfl) ea_nil)) ⟨l, p, _, rfl, by rw [hlen]; exact hp.rn.get hl1, fun q hq => (hp.vb.take i) pt hpt q hq, rfl⟩) (by rw [List.length_map, hlen]; omega) (by simp [noAl]) k hp0 fun H4 en k4 kx4 => ?_
    refine ⟨.dat (lD l), ?_, k4, kx.trans kx4⟩
    have e1 : vrun pt (ls.take (i + 1)) = vrun pt (ls.take i) ++ [vst (vrun pt (ls.take i)) l] := by rw [take_snoc hl1, vrun_snoc]
    rw [e1, List.map_append]
    exact en
  · rw [List.length_map, List.take_length] at en
    refine s_ret en (ed_tupOf (el_dropL (k := n) (ev_var rfl) (eo_some (ed_var rfl)))) fun v H' s k' sv p => hq v H' s (k.trans k') sv ?_
    rw [p, List.map_drop]
theorem ok_carried_all (c_number_by : Cl P w K mg base 4 "_number_by" (Con 3 A_number_by)) : Cl P w K mg base 5 "_carried_all" (Con 1 A_carried_all) := by
  refine mkCl T.d_carried_all sc_carried_all (fun _ _ _ _ _ _ us hl => match us, hl with | [_], _ => rfl) Con.len (fun f cdv A outer s H vs Q E hr h => ?_)
  obtain ⟨r, ss, PP, hl, ⟨n, ls, rfl, hp, rfl⟩, hv, rk, hq⟩ := h
  have en := En.start (N := ["program", "size", "lines", "lots", "numbers", "line", "word", "one", "other", "lot", "which"]) hv rk
  refine ⟨_, (pss_cons (ps_asg (pv 0) (pg_tup (n := 2) rfl (pgs_cons (pg_name (i := 1) sc_carried_all.nd rfl (Or.inl rfl)) (pgs_cons (pg_name (i := 2) sc_carried_all.nd rfl (Or.inl rfl)) pgs_nil)))) (pss_cons (ps_par (i := 3) (j := 4) rfl sc_carried_all.nd rfl rfl (by decide) rfl rfl (pa_cons (pe_lc (own := [("which", 10)]) (g := gName 10) rfl sc_carried_all.nd (pi_range1 rfl T.b_range (pa_cons (pv 1) pa_nil)) (blkOk_by (own := [("which", 10)]) (N := ["program", "size", "lines", "lots", "numbers", "line", "word", "one", "other", "lot", "which"]) (sc := defScope s_carried_all) (by decide +kernel)) (fun _ _ _ _ _ => pg_name (i := 10) sc_carried_all.nd rfl (Or.inl rfl)) (fun _ _ _ _ _ => pts_nil) (fun _ _ _ _ _ => (pe_tup (pa_cons (pv 10) pa_nil)))) (pa_cons (pe_op op_rep (pe_lst (pa_cons pe_non pa_nil)) (pv 1)) pa_nil)) (by rfl)) (pss_cons (ps_for PassesOwn.never rfl (pi_tup (pv 2)) (pg_name (i := 5) sc_carried_all.nd rfl (Or.inl rfl)) (pss_cons (ps_if (pt_cmpR op_eq (pe_ix (r := rIxT K) ix_tup (pv 5) pe_int (fun _ _ => rfl)) pe_str (nomark _)) (pss_cons (ps_expr (pe_bm PySem.F.plainAttrs_list PySem.F.slot_list_append PySem.F.type_list_append mt_append (pv 3) (pa_cons (pe_tup pa_nil) pa_nil))) (pss_cons (ps_expr (pe_bm PySem.F.plainAttrs_list PySem.F.slot_list_append PySem.F.type_list_append mt_append (pv 4) (pa_cons (pe_ix (r := rIxT K) ix_tup (pv 5) pe_int (fun _ _ => rfl)) pa_nil))) (pss_one ps_continue))) pss_nil) (pss_cons (ps_asg (pv 5) (pg_tup (n := 3) rfl (pgs_cons (pg_name (i := 6) sc_carried_all.nd rfl (Or.inl rfl)) (pgs_cons (pg_name (i := 7) sc_carried_all.nd rfl (Or.inl rfl)) (pgs_cons (pg_name (i := 8) sc_carried_all.nd rfl (Or.inl rfl)) pgs_nil))))) (pss_cons (ps_if (PW.pt (pw_and (pt_cmpR op_eq (pv 6) pe_str (nomark _)) (pw_and1 (PW.pt (pw_or (pt_cmpR (r := rEqD K) (op_eqD hr.units) (pe_ix (r := rIxL K) ix_list (pv 4) (pv 7) (fun _ _ => rfl)) (pe_tup (pa_cons pe_int (pa_cons pe_int pa_nil))) (nomark _)) (pw_or1 (pt_cmpR (r := rEqD K) (op_eqD hr.units) (pe_ix (r := rIxL K) ix_list (pv 4) (pv 8) (fun _ _ => rfl)) (pe_tup (pa_cons pe_int (pa_cons pe_int pa_nil))) (nomark _)))))))) (pss_cons (ps_expr (pe_bm PySem.F.plainAttrs_list PySem.F.slot_list_append PySem.F.type_list_append mt_append (pv 3) (pa_cons (pe_tup pa_nil) pa_nil))) (pss_cons (ps_expr (pe_bm PySem.F.plainAttrs_list PySem.F.slot_list_append PySem.F.type_list_append mt_append (pv 4) (pa_cons (pe_tup (pa_cons pe_int (pa_cons pe_int pa_nil))) pa_nil))) (pss_one ps_continue))) pss_nil) (pss_cons (ps_set (i := 9) sc_carried_all.nd rfl (Or.inl rfl) (pe_tupleOf rfl T.b_tuple (pe_callB (cr_sortedSet rfl) (by rfl) T.b_sorted (by decide +kernel) (pa_cons (pe_callTy (cr_setT rfl) (by rfl) T.b_set (by decide +kernel) (pa_cons (pe_op op_catA (pe_ix (r := rIxL K) ix_list (pv 3) (pv 7) (fun _ _ => rfl)) (pe_ix (r := rIxL K) ix_list (pv 3) (pv 8) (fun _ _ => rfl))) pa_nil)) pa_nil)))) (pss_cons (ps_expr (pe_bm PySem.F.plainAttrs_list PySem.F.slot_list_append PySem.F.type_list_append mt_append (pv 3) (pa_cons (pv 9) pa_nil))) (pss_one (ps_if (pt_cmpR (r := rEqD K) (op_eqD hr.units) (pv 9) (pe_tup pa_nil) (nomark _)) (pss_one (ps_expr (pe_bm PySem.F.plainAttrs_list PySem.F.slot_list_append PySem.F.type_list_append mt_append (pv 4) (pa_cons (pe_cl c_number_by hr (by decide) rfl (pa_cons (pv 6) (pa_cons (pe_ix (r := rIxL K) ix_list (pv 4) (pv 7) (fun _ _ => rfl)) (pa_cons (pe_ix (r := rIxL K) ix_list (pv 4) (pv 8) (fun _ _ => rfl)) pa_nil)))) pa_nil)))) (pss_one (ps_expr (pe_bm PySem.F.plainAttrs_list PySem.F.slot_list_append PySem.F.type_list_append mt_append (pv 4) (pa_cons pe_non pa_nil)))))))))))) (pss_one (ps_ret (pe_tup (pa_cons (pv 3) (pa_cons (pv 4) pa_nil)))))))), ?_⟩
  have n8 := hp.n8
  have m60 := hp.m60
  refine q_two (d1 := nD n) (d2 := lsD ls) en (ed_var rfl) fun σ1 H1 en k1 => ?_
  refine q_par2L en (el_rng1 (n := n) (f := fun _ => true) (v := fun k => D.tup [nD k]) (ea_c (ed_var rfl) ea_nil) (by omega) (fun i _ => eb_yes) fun i _ _ => ed_tup (ds := [nD i]) (ea_cd (ed_var rfl) ea_n)) (el_rep (n := n) (el_lst (ds := [.non]) (ea_cd ed_non ea_n)) (ed_var rfl) (by omega)) fun p q ds es σ2 H2 hp0 hq0 pq e1 e2 en k2 => ?_
  replace hp0 := k1.fresh hp0
  replace hq0 := k1.fresh hq0
  replace k2 := k1.trans k2
  have d1 : ds = (call n []).1.map loD := by
    rw [e1, compL_all]
    show _ = ((List.range n).map fun k => [k]).map loD
    rw [List.map_map]
    rfl
  have d2 : es = (call n []).2.map oD := by
    rw [e2]
    show _ = (List.replicate n none).map oD
    rw [List.map_replicate]
    rfl
  subst d1 d2
  refine q_seq (l_tup (ds := ls.map lD) en (ed_var rfl) (fun Hb i σ' H' => En r H' σ' [.dat (prD n ls), .dat (nD n), .dat (lsD ls), .lst p ((call n (ls.take i)).1.map loD), .lst q ((call n (ls.take i)).2.map oD), .any, .any, .any, .any, .any, .any] ∧ Kp r H H' ∧ Kx Hb H') (fun Hb en k => ⟨en, k2.trans k, Kx.refl _⟩) (fun Hb i σ' H' ⟨_, _, k⟩ => k) (fun Hb i d v σ' H' kb hd hdt ⟨en, k, kx⟩ => ?_) fun Hb σ' H' kb ⟨en, k, kx⟩ => ?_)
  · obtain ⟨l, hl1, rfl⟩ := getE_map hd
    have en' := en.set 5 (.dat hdt)
    have rni := hp.rn.take i
    have vbi := hp.vb.take i
    have hi := (List.getElem?_eq_some_iff.mp hl1).1
    have hlt : (ls.take i).length = i := by rw [List.length_take]; omega
    have hc := ci rni n8
    rw [hlt] at hc
    have hok := hp.rn.get hl1
    have hqb : ∀ {a : Nat} {x : Qt}, a < n + i → ((call n (ls.take i)).at a).2 = some x → QB x := fun ha e => num_qb n8 rni vbi (by rw [hlt]; exact ha) e
    have e1 : call n (ls.take (i + 1)) = cend (call n (ls.take i)) l := by rw [take_snoc hl1, call_snoc]
    have m1 : (call n (ls.take (i + 1))).1.map loD = (call n (ls.take i)).1.map loD ++ [loD (cst (call n (ls.take i)) l).1] := by
      rw [e1]
      show ((call n (ls.take i)).1 ++ [(cst (call n (ls.take i)) l).1]).map loD = _
      rw [List.map_append]
      rfl
    have m2 : (call n (ls.take (i + 1))).2.map oD = (call n (ls.take i)).2.map oD ++ [oD (cst (call n (ls.take i)) l).2] := by
      rw [e1]
      show ((call n (ls.take i)).2 ++ [(cst (call n (ls.take i)) l).2]).map oD = _
      rw [List.map_append]
      rfl
    rw [m1, m2]
    clear m1 m2 e1
    generalize hcc : call n (ls.take i) = c at *
    have z1 : (c.1.map loD).length < 100000 := by rw [List.length_map, hc.l1]; omega
    have z2 : (c.2.map oD).length < 100000 := by rw [List.length_map, hc.l2]; omega
    cases l with
    | num x =>
      refine q_take en' ((eb_test (ed_eqS (ed_ix0 (ds := [qD x]) (ed_var rfl)) ed_str)).is (by decide +kernel)) fun H1 en k1 => ?_
      refine q_app en rfl (d := loD []) ed_t0 z1 (by simp [noAl, pq.symm]) (k.trans k1) hp0 fun H2 en k2' kx2 => ?_
      refine q_app en rfl (d := qD x) (ed_ix1 (c := .str "num") (ds := []) (ed_var rfl)) z2 (by simp [noAl, pq]) k2' hq0 fun H3 en k3' kx3 => ?_
      exact ⟨En.drops [5, 6, 7, 8, 9] en, k3', ((kx.trans k1.kx).trans kx2).trans kx3⟩
    | op wd a b =>
      have ga : (c.2.map oD)[a]? = some (oD (c.at a).2) := get_map (by rw [hc.l2]; exact hok.1)
      have gb : (c.2.map oD)[b]? = some (oD (c.at b).2) := get_map (by rw [hc.l2]; exact hok.2)
      have fa : (c.1.map loD)[a]? = some (loD (c.at a).1) := get_map (by rw [hc.l1]; exact hok.1)
      have fb : (c.1.map loD)[b]? = some (loD (c.at b).1) := get_map (by rw [hc.l1]; exact hok.2)
      have la := hc.lot hok.1
      have lb := hc.lot hok.2
      have sa := hc.sm a hok.1
      have sb := hc.sm b hok.2
      refine q_pass en' ((eb_test (ed_eqS (ed_ix0 (ds := [nD a, nD b]) (ed_var rfl)) ed_str)).is (by cases wd <;> decide +kernel)) fun H1 en k1 => ?_
      refine q_three (d1 := .str (wS wd)) (d2 := nD a) (d3 := nD b) en (ed_var rfl) fun σ2 H2 en k2' => ?_
      have kx2 : Kx Hb H2 := (kx.trans k1.kx).trans k2'.kx
      replace k2' := (k.trans k1).trans k2'
      refine q_if0 en (eb_and (eb_test (ed_eqS (ed_var rfl) ed_str)) fun _ => eb_or (eb_test (ed_eqQ (ed_ixL (ev_var rfl) (ed_var rfl) ga) ed_q01)) fun _ => eb_test (ed_eqQ (ed_ixL (ev_var rfl) (ed_var rfl) gb) ed_q01)) (fun hb H3 en k3 => ?_) fun hb H3 en k3 => ?_
      · have ec : cst c (.op wd a b) = ([], some (0, 1)) := by
          rw [Bool.and_eq_true, Bool.or_eq_true] at hb
          have hw : wd = .mul := by
            cases wd
            · exact absurd hb.1 (by decide +kernel)
            · exact absurd hb.1 (by decide +kernel)
            · rfl
          show cop wd _ _ = _
          unfold cop
          rw [if_pos ⟨hw, hb.2⟩]
        rw [ec]
        refine q_app en rfl (d := loD []) ed_t0 z1 (by simp [noAl, pq.symm]) (k2'.trans k3) hp0 fun H4 en k4 kx4 => ?_
        refine q_app en rfl (d := qD (0, 1)) ed_q01 z2 (by simp [noAl, pq]) k4 hq0 fun H5 en k5 kx5 => ?_
        exact ⟨En.drops [5, 6, 7, 8, 9] en, k5, ((kx2.trans k3.kx).trans kx4).trans kx5⟩
      · have ec : cst c (.op wd a b) = (un (c.at a).1 (c.at b).1, if un (c.at a).1 (c.at b).1 = [] then some (qop wd ((c.at a).2.getD (0, 1)) ((c.at b).2.getD (0, 1))) else none) := by
          show cop wd _ _ = _
          unfold cop
          rw [if_neg]
          rintro ⟨rfl, h2⟩
          rw [show decide (wS Wd.mul = ("mul" : Str)) = true by decide +kernel, Bool.true_and] at hb
          rcases h2 with h2 | h2
          · rw [h2] at hb
            cases hb
          · rw [h2, Bool.or_true] at hb
            cases hb
        rw [ec]
        have len8 : ∀ l : List Nat, l.Pairwise (· < ·) → (∀ k ∈ l, k < n) → l.length ≤ 8 := fun l h1 h2 => Nat.le_trans (rise_len h1 h2) n8
        have ca : (loD (c.at a).1) = .tup ((c.at a).1.map nD) := rfl
        refine q_set (s := .dat (loD (un (c.at a).1 (c.at b).1))) en ((ev_tupOf (el_sortedSet (ns := ((c.at a).1 ++ (c.at b).1).map fun k : Nat => (k : Int)) (Ed.is (ed_catA (ed_ixL (ev_var rfl) (ed_var rfl) fa) (ed_ixL (ev_var rfl) (ed_var rfl) fb) ?_) ?_) ?_)).imp ?_) fun σ4 H4 en k4 => ?_
        · have := len8 _ la.1 la.2
          have := len8 _ lb.1 lb.2
          rw [List.length_map, List.length_map]
          omega
        · rw [← List.map_append, List.map_map]
          rfl
        · have := len8 _ la.1 la.2
          have := len8 _ lb.1 lb.2
          rw [List.length_map, List.length_append]
          omega
        · rintro s ⟨ds, rfl, ms, rfl, h1, h2⟩
          rw [sorted_un (fun k hk => Nat.lt_of_lt_of_le (la.2 k hk) n8) (fun k hk => Nat.lt_of_lt_of_le (lb.2 k hk) n8) h1 h2]
          rfl
        refine q_app en rfl (ed_var rfl) z1 (by simp [noAl, pq.symm]) ((k2'.trans k3).trans k4) hp0 fun H5 en k5 kx5 => ?_
        replace kx5 := ((kx2.trans k3.kx).trans k4.kx).trans kx5
        refine s_ifB en (eb_test (ed_eqU (ed_var rfl) ed_t0)) (fun hu H6 en k6 => ?_) fun hu H6 en k6 => ?_
        · have hu' : un (c.at a).1 (c.at b).1 = [] := List.isEmpty_iff.mp hu
          rw [if_pos hu']
          obtain ⟨u1, u2⟩ := (un_nil (fun k hk => Nat.lt_of_lt_of_le (la.2 k hk) n8) fun k hk => Nat.lt_of_lt_of_le (lb.2 k hk) n8).mp hu'
          obtain ⟨x, hx⟩ := Option.isSome_iff_exists.mp (sa.mp u1)
          obtain ⟨y, hy⟩ := Option.isSome_iff_exists.mp (sb.mp u2)
          refine s_app en rfl (d := qD (qop wd x y)) (ev_call' (ss := [.dat (.str (wS wd)), .dat (qD x), .dat (qD y)]) (ea_c (ed_var rfl) (ea_c (Ed.is (ed_ixL (ev_var rfl) (ed_var rfl) ga) ?_) (ea_c (Ed.is (ed_ixL (ev_var rfl) (ed_var rfl) gb) ?_) ea_nil))) ⟨wd, x, y, rfl, hqb hok.1 hx, hqb hok.2 hy, rfl⟩) z2 (by simp [noAl, pq]) (k5.trans k6) hq0 fun H7 en k7 kx7 => ?_
          · rw [hx]; rfl
          · rw [hy]; rfl
          · rw [hx, hy]
            exact ⟨En.drops [5, 6, 7, 8, 9] en, k7, (kx5.trans k6.kx).trans kx7⟩
        · have hu' : ¬ un (c.at a).1 (c.at b).1 = [] := fun z => by rw [z] at hu; cases hu
          rw [if_neg hu']
          refine s_app en rfl (d := .non) ed_non z2 (by simp [noAl, pq]) (k5.trans k6) hq0 fun H7 en k7 kx7 => ?_
          exact ⟨En.drops [5, 6, 7, 8, 9] en, k7, (kx5.trans k6.kx).trans kx7⟩
  · rw [List.length_map, List.take_length] at en
    refine s_ret en (ev_tl (ss := [.lst p ((call n ls).1.map loD), .lst q ((call n ls).2.map oD)]) (ea_c (ev_var rfl) (ea_c (ev_var rfl) ea_nil))) fun v H' s k' sv e => hq v H' s (k.trans k') sv ⟨_, _, e, p, q, rfl, rfl⟩
end
end Zk

-- part ZW
namespace Zk
open PySem PySem.Spec PyProof.Rows L2 Zb Zr Zm
local macro_rules | `(tactic| trivial) => `(tactic| first
  | with_reducible exact ed_int | with_reducible exact ed_str | with_reducible exact ed_bl | with_reducible exact ed_non | exact ed_var rfl
  | (with_reducible refine ed_neg ?_; trivial)
  | (with_reducible refine ed_i ?_ ?_ <;> trivial)
  | (with_reducible refine ed_c ?_ ?_ <;> trivial))
def nzf (n : Nat) (ls : List Ln) (i : Nat) : Bool := isZ ((call n ls).at i).2
noncomputable def cntD (n : Nat) (ls : List Ln) : D := .tup ((cnt n (nzf n ls) ls (ls.length - 1)).map nD)
def A_carried : CA := fun _ ss P => ∃ n ls, ss = [.dat (prD n ls)] ∧ PrOk n ls ∧ P = fun s => s = .dat (.tup (((call n ls).1.drop n).map loD))
def A_numbers : CA := fun _ ss P => ∃ n ls, ss = [.dat (prD n ls)] ∧ PrOk n ls ∧ P = fun s => s = .dat (.tup (((call n ls).2.drop n).map oD))
def A_counting : CA := fun _ ss P => ∃ n ls, ss = [.dat (prD n ls)] ∧ PrOk n ls ∧ P = fun s => s = .dat (cntD n ls)
/-- bools by places -/
def blD (m : Nat) (f : Nat → Bool) : List D := (List.range m).map fun k => D.bl (f k)
theorem blD_len (m : Nat) (f : Nat → Bool) : (blD m f).length = m := by simp [blD]
theorem blD_get {m : Nat} {f : Nat → Bool} {j : Nat} (h : j < m) : (blD m f)[j]? = some (.bl (f j)) := by
  unfold blD
  rw [List.getElem?_map, List.getElem?_range h]
  rfl
theorem blD_set {m : Nat} {f : Nat → Bool} {j : Nat} : (blD m f).set j (.bl true) = blD m fun k => decide (k = j) || f k := by
  apply List.ext_getElem?
  intro i
  rcases Nat.lt_or_ge i m with hi | hi
  · rw [blD_get hi]
    by_cases h : j = i
    · subst h
      rw [List.getElem?_set_self (by rw [blD_len]; exact hi)]
      simp
    · rw [List.getElem?_set_ne h, blD_get hi]
      have : ¬ i = j := fun z => h z.symm
      simp [this]
  · rw [List.getElem?_eq_none (by rw [List.length_set, blD_len]; exact hi), List.getElem?_eq_none (by rw [blD_len]; exact hi)]
theorem blD_rep (m : Nat) (c : Bool) : List.replicate m (D.bl c) = blD m fun _ => c := by
  unfold blD
  have : (List.range m).map (fun _ : Nat => D.bl c) = List.replicate (List.range m).length (D.bl c) := map_const fun _ _ => rfl
  rw [this, List.length_range]
section
variable {r : Option Addr} {K : PySem.W.Frag} {G : List Sl} {σ : L2.St} {H : Hp} {ta : TA} {te : TE} {tb : TS} {D' : Ends} {j : Nat}
theorem l_down {n : Nat} (e : En r H σ G) (h : Ea r ta G (fun x => x = [.dat (.int ((n : Int) - 1)), .dat (.int (-1)), .dat (.int (-1))])) (hn : n < 2 ^ 60) (Pv : Nat → L2.St → Hp → Prop) (h0 : ∀ H', En r H' σ G → Kp r H H' → Pv n σ H')
    (hs : ∀ t σ' H', t < n → Pv (t + 1) σ' H' → tb { D' with nx := Pv t, ct := Pv t, bk := D'.nx } (σ'.set j (some (.int (t : Nat)))) H') (hd : ∀ σ' H', Pv 0 σ' H' → D'.nx σ' H') : tFor (iRng3 ta) (gName j) tb D' σ H :=
  h σ H e _ fun vs H2 ss k2 sv p => by
    subst p
    cases sv with
    | cons a b =>
      cases b with
      | cons b c =>
        cases c with
        | cons c d =>
          cases d
          cases a.d
          cases b.d
          cases c.d
          have en : ((n : Int) - 1 - -1).toNat = n := by omega
          have rg := RgC.neg (i := (n : Int) - 1) (j := -1) (by omega) (by omega) (by omega) (by omega)
          rw [en] at rg
          refine ⟨_, _, _, n, rfl, rg, ?_⟩
          refine for_rangeC (fun i σ' H' => Pv (n - i) σ' H') (h0 H2 (e.mono k2) k2) (fun i σ' H' hi p => ?_) (fun σ' H' p => ?_)
          · have e1 : n - i = (n - (i + 1)) + 1 := by omega
            have e0 : (n : Int) - 1 + (i : Nat) * -1 = ((n - (i + 1) : Nat) : Int) := by omega
            have p' : Pv ((n - (i + 1)) + 1) σ' H' := e1 ▸ p
            have z := hs (n - (i + 1)) σ' H' (by omega) p'
            show tb _ (σ'.set j (some (.int ((n : Int) - 1 + (i : Nat) * -1)))) H'
            rw [e0]
            exact z
          · rw [Nat.sub_self] at p
            exact hd σ' H' p
end
/-- what the sweep knows before place t -/
def Sw (E : Nat → Nat → Prop) (m t : Nat) (f : Nat → Bool) : Prop := ∀ j, j < m → (f j = true ↔ (j = m - 1 ∨ ∃ k, t ≤ k ∧ k < m ∧ Rch E (m - 1) k ∧ E k j))
theorem sw_at {E : Nat → Nat → Prop} {m t : Nat} {f : Nat → Bool} (hE : ∀ k j, E k j → j < k) (h : Sw E m (t + 1) f) (ht : t < m) : f t = true ↔ Rch E (m - 1) t := by
  rw [h t ht]
  constructor
  · rintro (e | ⟨k, _, _, h1, h2⟩)
    · rw [e]
      exact .refl _
    · exact h1.snoc h2
  · intro hr
    rcases hr.tail with e | ⟨l, h1, h2⟩
    · exact .inl e
    · have := hE _ _ h2
      have := rch_le hE h1
      exact .inr ⟨l, by omega, by omega, h1, h2⟩
theorem sw_pass {E : Nat → Nat → Prop} {m t : Nat} {f : Nat → Bool} (hE : ∀ k j, E k j → j < k) (h : Sw E m (t + 1) f) (ht : t < m) (hn : f t = false ∨ ∀ j, ¬ E t j) : Sw E m t f := fun j hj => by
  rw [h j hj]
  constructor
  · rintro (e | ⟨k, h1, h2⟩)
    · exact .inl e
    · exact .inr ⟨k, by omega, h2⟩
  · rintro (e | ⟨k, h1, h2, h3, h4⟩)
    · exact .inl e
    · rcases Nat.lt_or_ge t k with hk | hk
      · exact .inr ⟨k, hk, h2, h3, h4⟩
      · have ek : k = t := by omega
        subst ek
        rcases hn with hn | hn
        · have := (sw_at hE h ht).mpr h3
          rw [hn] at this
          cases this
        · exact (hn j h4).elim
theorem sw_more {E : Nat → Nat → Prop} {m t : Nat} {f g : Nat → Bool} (hE : ∀ k j, E k j → j < k) (h : Sw E m (t + 1) f) (ht : t < m) (hf : f t = true) (hg : ∀ j, j < m → (g j = true ↔ (f j = true ∨ E t j))) : Sw E m t g := fun j hj => by
  rw [hg j hj, h j hj]
  have hr := (sw_at hE h ht).mp hf
  constructor
  · rintro ((e | ⟨k, h1, h2⟩) | e)
    · exact .inl e
    · exact .inr ⟨k, by omega, h2⟩
    · exact .inr ⟨t, Nat.le_refl _, ht, hr, e⟩
  · rintro (e | ⟨k, h1, h2, h3, h4⟩)
    · exact .inl (.inl e)
    · rcases Nat.lt_or_ge t k with hk | hk
      · exact .inl (.inr ⟨k, hk, h2, h3, h4⟩)
      · have ek : k = t := by omega
        subst ek
        exact .inr h4
theorem sw_end {E : Nat → Nat → Prop} {m : Nat} {f : Nat → Bool} (hE : ∀ k j, E k j → j < k) (h : Sw E m 0 f) (hm : 0 < m) : (List.range m).filter f = (List.range (m - 1 + 1)).filter (rB E (m - 1)) := by
  rw [show m - 1 + 1 = m by omega]
  apply List.filter_congr
  intro j hj
  rw [List.mem_range] at hj
  have h1 := h j hj
  have h2 : rB E (m - 1) j = true ↔ (j = m - 1 ∨ ∃ k, 0 ≤ k ∧ k < m ∧ Rch E (m - 1) k ∧ E k j) := by
    rw [rB_iff]
    constructor
    · intro hr
      rcases hr.tail with e | ⟨l, h1, h2⟩
      · exact .inl e
      · by_cases hl : l < m
        · exact .inr ⟨l, Nat.zero_le _, hl, h1, h2⟩
        · have := rch_le hE h1
          omega
    · rintro (e | ⟨k, _, _, h1, h2⟩)
      · rw [e]
        exact .refl _
      · exact h1.snoc h2
  rw [Bool.eq_iff_iff, h1, h2]
end Zk

-- part ZX
namespace Zk
open PySem PySem.Spec PyProof.Rows L2 Zb Zr Zm
local macro_rules | `(tactic| trivial) => `(tactic| first
  | with_reducible exact ed_int | with_reducible exact ed_str | with_reducible exact ed_bl | with_reducible exact ed_non | exact ed_var rfl
  | (with_reducible refine ed_neg ?_; trivial)
  | (with_reducible refine ed_i ?_ ?_ <;> trivial)
  | (with_reducible refine ed_c ?_ ?_ <;> trivial))
theorem wS_mul (w : Wd) : decide (wS w = ("mul" : Str)) = decide (w = .mul) := by cases w <;> decide +kernel
/-- what the class NotUsable has -/
structure TxE (K : PySem.W.Frag) (mg : Str → Option Value) (C : Addr) : Prop where
  oex : OexC K C
  xf : XfC K C
  gC : mg "NotUsable" = some (.ref C)
  xm : PySem.W.exmOne K (.ref C) (.ref C) = some true
  nw : PySem.W.findIn K (.ref C) "word" = some none
  na : PySem.W.findIn K (.ref C) "at" = some none
  init : ∃ fI fd, FunD K "__init__" "NotUsable.__init__" (defArgs s_init) (defBody s_init) (defScope s_init) [] [] fI fd ∧ PySem.W.findIn K (.ref C) "__init__" = some (some (.ref fI)) ∧ PySem.W.typeIn K (.ref fI) = some (.type "function")
def sp_init (K : PySem.W.Frag) : Sp := fun vs H Q E => ∃ (a C : Addr) (y z : V), vs = [.ref a, y, z] ∧ OexC K C ∧ PySem.W.findIn K (.ref C) "word" = some none ∧ PySem.W.findIn K (.ref C) "at" = some none ∧ H a = some (exo a C none) ∧
  ∀ dx, H dx = none → dx ≠ a → Q .non (L2.upd (L2.upd (L2.upd H dx (exd dx [("word", y)])) a (exo a C (some dx))) dx (exd dx [("at", z), ("word", y)]))
theorem sc_init : FnScope ["self", "word", "at"] ["self", "word", "at"] (defScope s_init) := ⟨rfl, rfl, rfl, by decide +kernel, rfl, by decide +kernel, by decide +kernel⟩
def fs0 : List (Str × V) := [("at", .int (-1)), ("word", .str "program")]
/-- a program with a mix -/
def MixB (C : Addr) : Sp := fun vs H Q E => ∃ (r : Option Addr) (d : D) (ls : List (Str × List D)), vs.length = 1 ∧ SvAll r H vs [.dat (.tup [d, .tup (ls.map fun l => .tup (.str l.1 :: l.2))])] ∧ (∀ a, r = some a → Row H a) ∧ ls.length ≤ 1000 ∧ (ls.all fun l => !decide (l.1 = ("mix" : Str))) = false ∧
  ∀ dd H', Kp r H H' → H' dd = some (.xd fs0) → E (.ref C) (some dd) H'
def lP : Ln → Str × List D
  | .num q => ("num", [qD q])
  | .op w a b => (wS w, [nD a, nD b])
theorem lP_eq (ls : List Ln) : (ls.map lP).map (fun l => D.tup (.str l.1 :: l.2)) = ls.map lD := by
  rw [List.map_map]
  refine List.map_congr_left fun l _ => ?_
  cases l <;> rfl
theorem lP_all (ls : List Ln) : ((ls.map lP).all fun l => !decide (l.1 = ("mix" : Str))) = true := by
  rw [List.all_map]
  refine List.all_eq_true.mpr fun l _ => ?_
  cases l with
  | num q =>
    show (!decide (("num" : Str) = ("mix" : Str))) = true
    decide +kernel
  | op w a b =>
    show (!decide (wS w = ("mix" : Str))) = true
    cases w <;> decide +kernel
theorem plain_ok {r : Option Addr} {n : Nat} {ls : List Ln} (hl : ls.length ≤ 60) : A_is_plain r [.dat (prD n ls)] (fun s => s = .dat (.bl true)) := by
  refine ⟨nD n, ls.map lP, ?_, by rw [List.length_map]; omega, ?_⟩
  · rw [lP_eq]
    rfl
  · rw [lP_all]
def ConX (n : Nat) (A : CA) (B : Sp) : Sp := fun vs H Q E => Con n A vs H Q E ∨ B vs H Q E
structure ClX (P : Program) (w : World) (K : PySem.W.Frag) (mg : Str → Option Value) (base : Heap) (k : Nat) (x : Str) (p : Str) (sp : Sp) : Prop where
  ex : ∃ f fd, FnOk P w K mg base (L2.CX P w) k f fd [p] sp ∧ mg x = some (.ref f) ∧ PySem.W.keepIn K (.ref f) = true ∧ Binds K fd [p] [] ∧ KBn K fd [p] 0 [p] (fun _ ws => ws) (fun _ zs => zs)
section
variable {P : Program} {w : World} {K : PySem.W.Frag} {mg : Str → Option Value} {base : Heap} {C : Addr}
theorem kb_one {x p : Str} {st : Stmt} {f : Addr} {fd : FuncData} (F : FunD K x x (defArgs st) (defBody st) (defScope st) [] [] f fd)
    (hk : ∀ (kV doc pm : Value) (an : Option Addr) (cdv ct : Value) (u : Value), bindArgs (PySem.W.fnOf x x (defArgs st) (defBody st) (defScope st) .none kV doc pm an cdv ct) ⟨[], [(p, u)]⟩ = pure [(p, u)]) : KBn K fd [p] 0 [p] (fun _ ws => ws) (fun _ zs => zs) := by
  obtain ⟨oc, od, dV, kV, doc, pm, an, cdv, ct, osl, rfl, lk, hcd, hD, hK⟩ := F.ex
  rcases hD with ⟨_, rfl⟩ | ⟨e, _⟩
  · refine ⟨fun s us ws _ l1 l2 => ?_, fun _ r => r⟩
    have e1 : us = [] := List.eq_nil_of_length_eq_zero l1
    subst e1
    match ws, l2 with
    | [u], _ => exact .of_eq (hk kV doc pm an cdv ct u)
  · exact absurd rfl e
theorem mkClX {x p : Str} {st : Stmt} {N : List Str} {k : Nat} {A : CA} (D : Dfn K mg x st) (S : FnScope N [p] (defScope st))
    (hb : ∀ (kV doc pm : Value) (an : Option Addr) (cdv ct : Value) (us : List Value), us.length = [p].length → bindArgs (PySem.W.fnOf x x (defArgs st) (defBody st) (defScope st) .none kV doc pm an cdv ct) ⟨us, []⟩ = pure ([p].zip us))
    (hk : ∀ (kV doc pm : Value) (an : Option Addr) (cdv ct : Value) (u : Value), bindArgs (PySem.W.fnOf x x (defArgs st) (defBody st) (defScope st) .none kV doc pm an cdv ct) ⟨[], [(p, u)]⟩ = pure [(p, u)])
    (h1 : ∀ (f : Addr) (cdv : Value) (A' : Around) (outer : List Env) (s : Shared) (H : Hp) (vs : List V) (Q : VK) (E : XK), Room k (A'.deeper (envOfC x (defScope st) s.heap.objs.size f cdv)) → Con 1 A vs H Q E →
      ∃ t, PSs (cxOf (L2.CX P w) P w K mg base N x (defScope st) f cdv A' outer s H E).nox (defBody st) t ∧ t { nx := fun _ H' => Q .non H', rt := Q } (L2.start N vs) H)
    (h2 : ∀ (f : Addr) (cdv : Value) (A' : Around) (outer : List Env) (s : Shared) (H : Hp) (vs : List V) (Q : VK) (E : XK), Room k (A'.deeper (envOfC x (defScope st) s.heap.objs.size f cdv)) → MixB C vs H Q E →
      ∃ t, PSs (cxOf (L2.CX P w) P w K mg base N x (defScope st) f cdv A' outer s H E) (defBody st) t ∧ t { nx := fun _ H' => Q .non H', rt := Q } (L2.start N vs) H) : ClX P w K mg base (k + 1) x p (ConX 1 A (MixB C)) := by
  obtain ⟨f, fd, F, hm⟩ := D
  have len : ∀ vs H Q E, ConX 1 A (MixB C) vs H Q E → vs.length = [p].length := fun vs H Q E h => by
    rcases h with h | ⟨_, _, _, h, _⟩
    · exact Con.len _ _ _ _ h
    · exact h
  refine ⟨f, fd, F.ok S len fun cdv A' outer s H vs Q E hr h => ?_, hm, F.kp, F.bindsN hb, kb_one F hk⟩
  rcases h with h | h
  · obtain ⟨t, q1, q2⟩ := h1 f cdv A' outer s H vs Q E hr h
    exact ⟨t, q1.nox, q2⟩
  · exact h2 f cdv A' outer s H vs Q E hr h
theorem ok_init (T : TxE K mg C) : ∃ fI fd, FnOk P w K mg base CX0 1 fI fd ["self", "word", "at"] (sp_init K) ∧ PySem.W.findIn K (.ref C) "__init__" = some (some (.ref fI)) ∧ PySem.W.typeIn K (.ref fI) = some (.type "function") ∧ Binds K fd ["self", "word", "at"] [] := by
  obtain ⟨f, fd, F, h1, h2⟩ := T.init
  refine ⟨f, fd, F.ok sc_init (fun vs H Q E h => ?_) fun cdv A outer s H vs Q E hr h => ?_, h1, h2, F.bindsN (fun _ _ _ _ _ _ us hl => match us, hl with | [_, _, _], _ => rfl)⟩
  · obtain ⟨_, _, _, _, rfl, _⟩ := h
    rfl
  · obtain ⟨a, C', y, z, rfl, hO, hw, ha, he, q⟩ := h
    refine ⟨_, pss_cons (ps_ost (pv 0) (pv 1)) (pss_one (ps_ost (pv 0) (pv 2))), ?_⟩
    refine ⟨y, rfl, .ref a, rfl, a, C', rfl, hO, hw, .inl ⟨he, fun dx hd ne => ?_⟩⟩
    refine ⟨z, rfl, .ref a, rfl, a, C', rfl, hO, ha, .inr ⟨dx, [("word", y)], upd_same, ?_, (show 1 ≤ 900 by decide), q dx hd ne⟩⟩
    rw [upd_ne ne, upd_same]
/-- the way out of a program with a mix -/
theorem raise_out (T : TxE K mg C) {r : Option Addr} {G : List Sl} {σ : L2.St} {H H0 : Hp} {W : XK} (en : En r H σ G) (k0 : Kp r H0 H) (hW : ∀ dd H', Kp r H0 H' → H' dd = some (.xd fs0) → W (.ref C) (some dd) H') :
    tMkO C (sp_init K) [] (tCons (tC (.str "program")) (tCons (tUn (rU fun i => .int (-i)) (tC (.int 1))) tNil)) σ H W := by
  refine ea_c (r := r) (s := .dat (.str "program")) (ss := [.dat (.int (-1))]) ed_str (ea_c (ed_neg ed_int) ea_nil) σ H en _ fun vs H1 ss k1 sv pv => ?_
  subst pv
  cases sv with
  | cons a b =>
    cases b with
    | cons b c =>
      cases c
      cases a.d
      cases b.d
      refine ⟨by show 2 ≤ 1000; decide, fun a ha => ⟨a, C, _, _, rfl, T.oex, T.nw, T.na, upd_same, fun dx hd ne => ⟨rfl, dx, _, ?_, upd_same, ?_, ?_⟩⟩⟩
      · rw [upd_ne (Ne.symm ne), upd_same]
      · rw [upd_ne ne] at hd
        exact hd
      · rw [upd_ne ne] at hd
        refine hW dx _ (k0.trans (k1.trans (Kp.of fun b o hb => ?_))) upd_same
        have n1 : b ≠ a := ne_of_none hb ha
        have n2 : b ≠ dx := ne_of_none hb hd
        rw [upd_ne n2, del_ne n1, upd_ne n2, upd_ne n1, upd_ne n2, upd_ne n1]
        exact hb
theorem ok_carried_of (T : Txt K mg) (TX : TxE K mg C) (c_is_plain : Cl P w K mg base 1 "is_plain" (Con 1 A_is_plain)) (c_carried_all : Cl P w K mg base 5 "_carried_all" (Con 1 A_carried_all)) : ClX P w K mg base 6 "carried_of" "program" (ConX 1 A_carried (MixB C)) := by
  obtain ⟨fI, fdI, FI, iC, tI, bI⟩ := ok_init (P := P) (w := w) (base := base) TX
  refine mkClX (N := ["program", "lots", "_"]) T.d_carried_of sc_carried_of (fun _ _ _ _ _ _ us hl => match us, hl with | [_], _ => rfl) (fun _ _ _ _ _ _ _ => rfl) (fun f cdv A outer s H vs Q E hr h => ?_) (fun f cdv A outer s H vs Q E hr h => ?_)
  · obtain ⟨r, ss, PP, hl, ⟨n, ls, rfl, hp, rfl⟩, hv, rk, hq⟩ := h
    have en := En.start (N := ["program", "lots", "_"]) hv rk
    refine ⟨_, (pss_cons (ps_if (pt_not (pt_val (pe_cl c_is_plain hr (by decide) rfl (pa_cons (pv 0) pa_nil)))) (pss_one ps_never) pss_nil) (pss_cons (ps_asg (pe_cl c_carried_all hr (by decide) rfl (pa_cons (pv 0) pa_nil)) (pg_tup (n := 2) rfl (pgs_cons (pg_name (i := 1) sc_carried_of.nd rfl (Or.inl rfl)) (pgs_cons (pg_name (i := 2) sc_carried_of.nd rfl (Or.inl rfl)) pgs_nil)))) (pss_one (ps_ret (pe_tupleOf rfl T.b_tuple (pe_slice sl_list (pv 1) (po_some (pe_ix (r := rIxT K) ix_tup (pv 0) pe_int (fun _ _ => rfl))) po_none)))))), ?_⟩
    refine q_pass en ((eb_not (eb_B (ev_call' (ss := [.dat (prD n ls)]) (ea_c (ed_var rfl) ea_nil) (plain_ok hp.m60)))).is rfl) fun H1 en k1 => ?_
    refine q_twoS en (ev_call' (ss := [.dat (prD n ls)]) (ea_c (ed_var rfl) ea_nil) ⟨n, ls, rfl, hp, rfl⟩) fun s1 s2 σ2 H2 p2 en k2 => ?_
    obtain ⟨p, q, rfl, rfl⟩ := p2
    refine s_ret en (ed_tupOf (el_dropL (k := n) (ev_var rfl) (eo_some (ed_ix0 (ds := [lsD ls]) (ed_var rfl))))) fun v H' s k' sv e => hq v H' s ((k1.trans k2).trans k') sv ?_
    rw [e, List.map_drop]
  · obtain ⟨r, d, ls, hl, hv, rk, hls, hm, hE⟩ := h
    have en := En.start (N := ["program", "lots", "_"]) (ss := [.dat (.tup [d, .tup (ls.map fun l => .tup (.str l.1 :: l.2))])]) hv rk
    refine ⟨_, (pss_cons (ps_if (pt_not (pt_val (pe_cl c_is_plain hr (by decide) rfl (pa_cons (pv 0) pa_nil)))) (pss_one (ps_raise rfl (takes_of rfl rfl rfl rfl) (pmk_oex TX.oex iC tI FI (hr.mono (by decide : 2 ≤ 5)) bI .nil pass0 rfl TX.gC (pa_cons pe_str (pa_cons (pe_un un_neg pe_int) pa_nil))))) pss_nil) (pss_cons ps_never (pss_one ps_never))), ?_⟩
    refine q_take en ((eb_not (eb_B (ev_call' (ss := [.dat (.tup [d, .tup (ls.map fun l => .tup (.str l.1 :: l.2))])]) (ea_c (ed_var rfl) ea_nil) ⟨d, ls, rfl, hls, rfl⟩))).is (by rw [hm]; rfl)) fun H1 en k1 => ?_
    exact raise_out TX en k1 hE
theorem ok_numbers_of (T : Txt K mg) (TX : TxE K mg C) (c_is_plain : Cl P w K mg base 1 "is_plain" (Con 1 A_is_plain)) (c_carried_all : Cl P w K mg base 5 "_carried_all" (Con 1 A_carried_all)) : ClX P w K mg base 6 "numbers_of" "program" (ConX 1 A_numbers (MixB C)) := by
  obtain ⟨fI, fdI, FI, iC, tI, bI⟩ := ok_init (P := P) (w := w) (base := base) TX
  refine mkClX (N := ["program", "_", "numbers"]) T.d_numbers_of sc_numbers_of (fun _ _ _ _ _ _ us hl => match us, hl with | [_], _ => rfl) (fun _ _ _ _ _ _ _ => rfl) (fun f cdv A outer s H vs Q E hr h => ?_) (fun f cdv A outer s H vs Q E hr h => ?_)
  · obtain ⟨r, ss, PP, hl, ⟨n, ls, rfl, hp, rfl⟩, hv, rk, hq⟩ := h
    have en := En.start (N := ["program", "_", "numbers"]) hv rk
    refine ⟨_, (pss_cons (ps_if (pt_not (pt_val (pe_cl c_is_plain hr (by decide) rfl (pa_cons (pv 0) pa_nil)))) (pss_one ps_never) pss_nil) (pss_cons (ps_asg (pe_cl c_carried_all hr (by decide) rfl (pa_cons (pv 0) pa_nil)) (pg_tup (n := 2) rfl (pgs_cons (pg_name (i := 1) sc_numbers_of.nd rfl (Or.inl rfl)) (pgs_cons (pg_name (i := 2) sc_numbers_of.nd rfl (Or.inl rfl)) pgs_nil)))) (pss_one (ps_ret (pe_tupleOf rfl T.b_tuple (pe_slice sl_list (pv 2) (po_some (pe_ix (r := rIxT K) ix_tup (pv 0) pe_int (fun _ _ => rfl))) po_none)))))), ?_⟩
    refine q_pass en ((eb_not (eb_B (ev_call' (ss := [.dat (prD n ls)]) (ea_c (ed_var rfl) ea_nil) (plain_ok hp.m60)))).is rfl) fun H1 en k1 => ?_
    refine q_twoS en (ev_call' (ss := [.dat (prD n ls)]) (ea_c (ed_var rfl) ea_nil) ⟨n, ls, rfl, hp, rfl⟩) fun s1 s2 σ2 H2 p2 en k2 => ?_
    obtain ⟨p, q, rfl, rfl⟩ := p2
    refine s_ret en (ed_tupOf (el_dropL (k := n) (ev_var rfl) (eo_some (ed_ix0 (ds := [lsD ls]) (ed_var rfl))))) fun v H' s k' sv e => hq v H' s ((k1.trans k2).trans k') sv ?_
    rw [e, List.map_drop]
  · obtain ⟨r, d, ls, hl, hv, rk, hls, hm, hE⟩ := h
    have en := En.start (N := ["program", "_", "numbers"]) (ss := [.dat (.tup [d, .tup (ls.map fun l => .tup (.str l.1 :: l.2))])]) hv rk
    refine ⟨_, (pss_cons (ps_if (pt_not (pt_val (pe_cl c_is_plain hr (by decide) rfl (pa_cons (pv 0) pa_nil)))) (pss_one (ps_raise rfl (takes_of rfl rfl rfl rfl) (pmk_oex TX.oex iC tI FI (hr.mono (by decide : 2 ≤ 5)) bI .nil pass0 rfl TX.gC (pa_cons pe_str (pa_cons (pe_un un_neg pe_int) pa_nil))))) pss_nil) (pss_cons ps_never (pss_one ps_never))), ?_⟩
    refine q_take en ((eb_not (eb_B (ev_call' (ss := [.dat (.tup [d, .tup (ls.map fun l => .tup (.str l.1 :: l.2))])]) (ea_c (ed_var rfl) ea_nil) ⟨d, ls, rfl, hls, rfl⟩))).is (by rw [hm]; rfl)) fun H1 en k1 => ?_
    exact raise_out TX en k1 hE
theorem ok_counting_of (T : Txt K mg) (TX : TxE K mg C) (c_is_plain : Cl P w K mg base 1 "is_plain" (Con 1 A_is_plain)) (c_carried_all : Cl P w K mg base 5 "_carried_all" (Con 1 A_carried_all)) : ClX P w K mg base 6 "counting_of" "program" (ConX 1 A_counting (MixB C)) := by
  obtain ⟨fI, fdI, FI, iC, tI, bI⟩ := ok_init (P := P) (w := w) (base := base) TX
  refine mkClX (N := ["program", "size", "lines", "_", "numbers", "counts", "k", "word", "one", "other", "place", "beside"]) T.d_counting_of sc_counting_of (fun _ _ _ _ _ _ us hl => match us, hl with | [_], _ => rfl) (fun _ _ _ _ _ _ _ => rfl) (fun f cdv A outer s H vs Q E hr h => ?_) (fun f cdv A outer s H vs Q E hr h => ?_)
  · obtain ⟨r, ss, PP, hl, ⟨n, ls, rfl, hp, rfl⟩, hv, rk, hq⟩ := h
    have en := En.start (N := ["program", "size", "lines", "_", "numbers", "counts", "k", "word", "one", "other", "place", "beside"]) hv rk
    refine ⟨_, (pss_cons (ps_if (pt_not (pt_val (pe_cl c_is_plain hr (by decide) rfl (pa_cons (pv 0) pa_nil)))) (pss_one ps_never) pss_nil) (pss_cons (ps_asg (pv 0) (pg_tup (n := 2) rfl (pgs_cons (pg_name (i := 1) sc_counting_of.nd rfl (Or.inl rfl)) (pgs_cons (pg_name (i := 2) sc_counting_of.nd rfl (Or.inl rfl)) pgs_nil)))) (pss_cons (ps_asg (pe_cl c_carried_all hr (by decide) rfl (pa_cons (pv 0) pa_nil)) (pg_tup (n := 2) rfl (pgs_cons (pg_name (i := 3) sc_counting_of.nd rfl (Or.inl rfl)) (pgs_cons (pg_name (i := 4) sc_counting_of.nd rfl (Or.inl rfl)) pgs_nil)))) (pss_cons (ps_set (i := 5) sc_counting_of.nd rfl (Or.inr rfl) (pe_op op_rep (pe_lst (pa_cons pe_bl pa_nil)) (pe_callB (r := cLen K) call_len_seq (by rfl) T.b_len (by decide +kernel) (pa_cons (pv 2) pa_nil)))) (pss_cons (ps_asg pe_bl (pg_sub (pv 5) (pe_op op_sub (pe_callB (r := cLen K) call_len_seq (by rfl) T.b_len (by decide +kernel) (pa_cons (pv 2) pa_nil)) pe_int) set_list)) (pss_cons (ps_for PassesOwn.never rfl (pi_range3 rfl T.b_range (pa_cons (pe_op op_sub (pe_callB (r := cLen K) call_len_seq (by rfl) T.b_len (by decide +kernel) (pa_cons (pv 2) pa_nil)) pe_int) (pa_cons (pe_un un_neg pe_int) (pa_cons (pe_un un_neg pe_int) pa_nil)))) (pg_name (i := 6) sc_counting_of.nd rfl (Or.inl rfl)) (pss_cons (ps_if (PW.pt (pw_or (pt_not (pt_val (pe_ix (r := rIxL K) ix_list (pv 5) (pv 6) (fun _ _ => rfl)))) (pw_or1 (pt_cmpR op_eq (pe_ix (r := rIxT K) ix_tup (pe_ix (r := rIxT K) ix_tup (pv 2) (pv 6) (fun _ _ => rfl)) pe_int (fun _ _ => rfl)) pe_str (nomark _))))) (pss_one ps_continue) pss_nil) (pss_cons (ps_asg (pe_ix (r := rIxT K) ix_tup (pv 2) (pv 6) (fun _ _ => rfl)) (pg_tup (n := 3) rfl (pgs_cons (pg_name (i := 7) sc_counting_of.nd rfl (Or.inl rfl)) (pgs_cons (pg_name (i := 8) sc_counting_of.nd rfl (Or.inl rfl)) (pgs_cons (pg_name (i := 9) sc_counting_of.nd rfl (Or.inl rfl)) pgs_nil))))) (pss_one (ps_for PassesOwn.never rfl (pi_tup (pe_tup (pa_cons (pe_tup (pa_cons (pv 8) (pa_cons (pv 9) pa_nil))) (pa_cons (pe_tup (pa_cons (pv 9) (pa_cons (pv 8) pa_nil))) pa_nil)))) (pg_tup (n := 2) rfl (pgs_cons (pg_name (i := 10) sc_counting_of.nd rfl (Or.inl rfl)) (pgs_cons (pg_name (i := 11) sc_counting_of.nd rfl (Or.inl rfl)) pgs_nil))) (pss_one (ps_if (PW.pt (pw_and (pt_cmpR op_ge (pv 10) (pv 1) (nomark _)) (pw_and1 (pt_not (PW.pt (pw_and (pt_cmpR op_eq (pv 7) pe_str (nomark _)) (pw_and1 (pt_cmpR (r := rEqD K) (op_eqD hr.units) (pe_ix (r := rIxL K) ix_list (pv 4) (pv 11) (fun _ _ => rfl)) (pe_tup (pa_cons pe_int (pa_cons pe_int pa_nil))) (nomark _))))))))) (pss_one (ps_asg pe_bl (pg_sub (pv 5) (pe_op op_sub (pv 10) (pv 1)) set_list))) pss_nil))))))) (pss_one (ps_ret (pe_tupleOf rfl T.b_tuple (pe_lc (own := [("k", 6)]) (g := gName 6) rfl sc_counting_of.nd (pi_range1 rfl T.b_range (pa_cons (pe_callB (r := cLen K) call_len_seq (by rfl) T.b_len (by decide +kernel) (pa_cons (pv 2) pa_nil)) pa_nil)) (blkOk_by (own := [("k", 6)]) (N := ["program", "size", "lines", "_", "numbers", "counts", "k", "word", "one", "other", "place", "beside"]) (sc := defScope s_counting_of) (by decide +kernel)) (fun _ _ _ _ _ => pg_name (i := 6) sc_counting_of.nd rfl (Or.inl rfl)) (fun _ _ _ _ _ => (pts_one (pt_val (pe_ix (r := rIxL K) ix_list (pv 5) (pv 6) (fun _ _ => rfl))))) (fun _ _ _ _ _ => (pv 6)))))))))))), ?_⟩
    refine q_pass en ((eb_not (eb_B (ev_call' (ss := [.dat (prD n ls)]) (ea_c (ed_var rfl) ea_nil) (plain_ok hp.m60)))).is rfl) fun H1 en k1 => ?_
    refine q_two (d1 := nD n) (d2 := lsD ls) en (ed_var rfl) fun σ2 H2 en k2 => ?_
    refine q_twoS en (ev_call' (ss := [.dat (prD n ls)]) (ea_c (ed_var rfl) ea_nil) ⟨n, ls, rfl, hp, rfl⟩) fun s1 s2 σ3 H3 p3 en k3 => ?_
    obtain ⟨pl, q, rfl, rfl⟩ := p3
    replace k3 := (k1.trans k2).trans k3
    generalize hm : ls.length = m
    have m1 := hp.m1
    have m60 := hp.m60
    have hc := ci hp.rn hp.n8
    rw [hm] at m1 m60 hc
    obtain ⟨v4, hv4, sv4⟩ := en.get (i := 4) rfl (by intro z; cases z)
    have ed_m : ∀ {r : Option Addr} {G : List Sl} {te : TE}, Ed r te G (lsD ls) → Ed r (tCB (cLen K) (tCons te tNil)) G (.int (m : Nat)) := fun h => Ed.is (ed_lenT h) (by rw [List.length_map, hm])
    refine q_setL en (el_rep (n := m) (el_lst (ds := [.bl false]) (ea_cd ed_bl ea_n)) (ed_m (ed_var rfl)) (by omega)) fun p ds σ4 H4 hp0 np pd en k4 => ?_
    have qp : q ≠ p := by
      cases sv4 with
      | lst _ hls => exact ls_ne hls hp0
    subst pd
    rw [blD_rep] at en
    replace hp0 := k3.fresh hp0
    replace k4 := k3.trans k4
    have eE : ∀ k j, Ed1 n (nzf n ls) ls k j → j < k := fun k j e => ed1_lt hp.rn e
    refine q_setIx (En.drops [3] en) rfl (m := m - 1) ed_bl (Ed.is (ed_i (f := fun i j => i - j) (ed_m (ed_var rfl)) ed_int) ?_) (by rw [blD_len]; omega) (by simp [noAl, qp]) k4 hp0 fun H5 en k5 _ => ?_
    · congr 1
      omega
    rw [blD_set] at en
    refine q_seq (l_down (n := m) en (ea_c (Ed.is (ed_i (f := fun i j => i - j) (ed_m (ed_var rfl)) ed_int) rfl) (ea_c (ed_neg ed_int) (ea_c (ed_neg ed_int) ea_nil))) (by omega) (fun t σ' H' => ∃ f, Sw (Ed1 n (nzf n ls) ls) m t f ∧ En r H' σ' [.dat (prD n ls), .dat (nD n), .dat (lsD ls), .any, .lst q ((call n ls).2.map oD), .lst p (blD m f), .any, .any, .any, .any, .any, .any] ∧ Kp r H H') (fun H' en k => ⟨_, fun j hj => ?_, en, k5.trans k⟩) (fun t σ' H' ht ⟨f, hs, en, k⟩ => ?_) fun σ' H' ⟨f, hs, en, k⟩ => ?_)
    · rw [Bool.or_false, decide_eq_true_eq]
      constructor
      · intro e
        exact .inl e
      · rintro (e | ⟨k, h1, h2, _⟩)
        · exact e
        · omega
    · have en := en.set 6 (v := .int (t : Nat)) (s := .dat (nD t)) (.dat (.int _))
      have hlt : t < ls.length := by omega
      obtain ⟨l, hl1⟩ : ∃ l, ls[t]? = some l := ⟨ls[t], List.getElem?_eq_getElem hlt⟩
      have hl2 : (ls.map lD)[t]? = some (lD l) := by rw [List.getElem?_map, hl1]; rfl
      have hok := hp.rn.get hl1
      have ek : ∀ {G : List Sl}, G[2]? = some (.dat (lsD ls)) → G[6]? = some (.dat (nD t)) → Ed r (tOp (rIxT K) (tVar 2) (tVar 6)) G (lD l) := fun h1 h2 => ed_ixT (ed_var h1) (ed_var h2) hl2
      have e0 : ∀ {G : List Sl} {te : TE}, Ed r te G (lD l) → Ed r (tOp (rIxT K) te (tC (.int 0))) G (.str (lP l).1) := fun h => by
        cases l with
        | num x => exact ed_ix0 (ds := [qD x]) h
        | op w a b => exact ed_ix0 (ds := [nD a, nD b]) h
      refine q_if0 en (eb_or (eb_not (eb_B (ed_ixL (ev_var rfl) (ed_var rfl) (blD_get ht)))) fun _ => eb_test (ed_eqS (e0 (ek rfl rfl)) ed_str)) (fun hb H6 en k6 => ?_) fun hb H6 en k6 => ?_
      · refine ⟨f, sw_pass eE hs ht ?_, En.drops [6] en, k.trans k6⟩
        rw [Bool.or_eq_true] at hb
        rcases hb with hb | hb
        · left
          simpa using hb
        · right
          rintro j ⟨w', a', b', h1, _⟩
          rw [hl1] at h1
          cases h1
          have hb' : decide (wS w' = ("num" : Str)) = true := hb
          cases w' <;> exact absurd hb' (by decide +kernel)
      · rw [Bool.or_eq_false_iff] at hb
        have hft : f t = true := by simpa using hb.1
        cases l with
        | num x => exact absurd hb.2 (by show ¬ (decide (("num" : Str) = "num") = false); decide +kernel)
        | op wd a b =>
          refine q_three (d1 := .str (wS wd)) (d2 := nD a) (d3 := nD b) en (ek rfl rfl) fun σ7 H7 en k7 => ?_
          replace k7 := (k.trans k6).trans k7
          have la : a < n + m := by have := hok.1; omega
          have lb : b < n + m := by have := hok.2; omega
          have ga : ((call n ls).2.map oD)[a]? = some (oD ((call n ls).at a).2) := get_map (by rw [hc.l2]; exact la)
          have gb : ((call n ls).2.map oD)[b]? = some (oD ((call n ls).at b).2) := get_map (by rw [hc.l2]; exact lb)
          refine l_tup (ds := [.tup [nD a, nD b], .tup [nD b, nD a]]) en (ed_tup (ea_cd (ed_tup (ea_cd (ed_var rfl) (ea_cd (ed_var rfl) ea_n))) (ea_cd (ed_tup (ea_cd (ed_var rfl) (ea_cd (ed_var rfl) ea_n))) ea_n))) (fun Hb i σ' H' => ∃ g, (∀ j, j < m → (g j = true ↔ (f j = true ∨ (1 ≤ i ∧ a = n + j ∧ ¬ (wd = .mul ∧ nzf n ls b = true)) ∨ (2 ≤ i ∧ b = n + j ∧ ¬ (wd = .mul ∧ nzf n ls a = true))))) ∧ En r H' σ' [.dat (prD n ls), .dat (nD n), .dat (lsD ls), .any, .lst q ((call n ls).2.map oD), .lst p (blD m g), .any, .dat (.str (wS wd)), .any, .any, .any, .any] ∧ Kp r H H' ∧ Kx Hb H') (fun Hb en k => ⟨f, fun j hj => ?_, En.drops [6, 8, 9] en, k7.trans k, Kx.refl _⟩) (fun Hb i σ' H' ⟨_, _, _, _, k⟩ => k) (fun Hb i d v σ' H' kb hd hdt ⟨g, hg, en, k, kx⟩ => ?_) fun Hb σ' H' kb ⟨g, hg, en, k, kx⟩ => ?_
          · constructor
            · intro h
              exact .inl h
            · rintro (h | ⟨h, _⟩ | ⟨h, _⟩)
              · exact h
              · omega
              · omega
          · obtain ⟨x, y, rfl, hxt, hym, hg'⟩ : ∃ x y : Nat, d = .tup [nD x, nD y] ∧ x < n + t ∧ y < n + m ∧ ∀ g' : Nat → Bool, (∀ j, j < m → (g' j = true ↔ (g j = true ∨ (x = n + j ∧ ¬ (wd = .mul ∧ nzf n ls y = true))))) → ∀ j, j < m → (g' j = true ↔ (f j = true ∨ (1 ≤ i + 1 ∧ a = n + j ∧ ¬ (wd = .mul ∧ nzf n ls b = true)) ∨ (2 ≤ i + 1 ∧ b = n + j ∧ ¬ (wd = .mul ∧ nzf n ls a = true)))) := by
              rcases i with _ | _ | i
              · refine ⟨a, b, (Option.some.inj hd).symm, hok.1, lb, fun g' h j hj => ?_⟩
                rw [h j hj, hg j hj]
                constructor
                · rintro ((h | ⟨h, _⟩ | ⟨h, _⟩) | h)
                  · exact .inl h
                  · omega
                  · omega
                  · exact .inr (.inl ⟨by omega, h⟩)
                · rintro (h | ⟨_, h⟩ | ⟨h, _⟩)
                  · exact .inl (.inl h)
                  · exact .inr h
                  · omega
              · refine ⟨b, a, (Option.some.inj hd).symm, hok.2, la, fun g' h j hj => ?_⟩
                rw [h j hj, hg j hj]
                constructor
                · rintro ((h | ⟨_, h⟩ | ⟨h, _⟩) | h)
                  · exact .inl h
                  · exact .inr (.inl ⟨by omega, h⟩)
                  · omega
                  · exact .inr (.inr ⟨by omega, h⟩)
                · rintro (h | ⟨_, h⟩ | ⟨_, h⟩)
                  · exact .inl (.inl h)
                  · exact .inl (.inr (.inl ⟨by omega, h⟩))
                  · exact .inr h
              · cases hd
            have gy : ((call n ls).2.map oD)[y]? = some (oD ((call n ls).at y).2) := get_map (by rw [hc.l2]; exact hym)
            refine g_two en hdt fun σ8 en => ?_
            refine s_ifB en (eb_and (eb_test (ed_c (f := fun i j => decide (i ≥ j)) (ed_var rfl) (ed_var rfl))) fun _ => eb_not (eb_and (eb_test (ed_eqS (ed_var rfl) ed_str)) fun _ => eb_test (ed_eqQ (ed_ixL (ev_var rfl) (ed_var rfl) gy) ed_q01))) (fun hb H9 en k9 => ?_) fun hb H9 en k9 => ?_
            · rw [Bool.and_eq_true, wS_mul] at hb
              have hge : n ≤ x := by
                have := of_decide_eq_true hb.1
                omega
              have hcnt : ¬ (wd = .mul ∧ nzf n ls y = true) := by
                rintro ⟨h1, h2⟩
                have h3 : isZ ((call n ls).at y).2 = true := h2
                rw [h1, h3] at hb
                exact absurd hb.2 (by decide)
              refine s_setIx en rfl (m := x - n) ed_bl (Ed.is (ed_i (f := fun i j => i - j) (ed_var rfl) (ed_var rfl)) ?_) (by rw [blD_len]; omega) (by simp [noAl, qp]) (k.trans k9) hp0 fun H10 en k10 kx10 => ?_
              · congr 1
                omega
              rw [blD_set] at en
              refine ⟨_, hg' _ fun j hj => ?_, En.drops [10, 11] en, k10, (kx.trans k9.kx).trans kx10⟩
              rw [Bool.or_eq_true, decide_eq_true_eq]
              constructor
              · rintro (h | h)
                · exact .inr ⟨by omega, hcnt⟩
                · exact .inl h
              · rintro (h | ⟨h, _⟩)
                · exact .inr h
                · exact .inl (by omega)
            · refine ⟨g, hg' g fun j hj => ?_, En.drops [10, 11] en, k.trans k9, kx.trans k9.kx⟩
              rw [wS_mul] at hb
              constructor
              · intro h
                exact .inl h
              · rintro (h | ⟨h1, h2⟩)
                · exact h
                · exfalso
                  rw [Bool.and_eq_false_iff] at hb
                  rcases hb with hb | hb
                  · have := of_decide_eq_false hb
                    omega
                  · apply h2
                    have h3 : wd = .mul ∧ isZ ((call n ls).at y).2 = true := by simpa using hb
                    exact h3
          · refine ⟨g, sw_more eE hs ht hft fun j hj => ?_, En.drops [7] en, k⟩
            rw [hg j hj]
            constructor
            · rintro (h | ⟨_, h⟩ | ⟨_, h⟩)
              · exact .inl h
              · exact .inr ⟨wd, a, b, hl1, .inl h⟩
              · exact .inr ⟨wd, a, b, hl1, .inr h⟩
            · rintro (h | ⟨w', a', b', h1, h⟩)
              · exact .inl h
              · rw [hl1] at h1
                cases h1
                rcases h with h | h
                · exact .inr (.inl ⟨(show 1 ≤ 2 by decide), h⟩)
                · exact .inr (.inr ⟨(show 2 ≤ 2 by decide), h⟩)
    · refine s_ret en (ed_tupOf (el_rng1 (n := m) (f := f) (v := nD) (ea_c (ed_m (ed_var rfl)) ea_nil) (by omega) (fun i hi => eb_B (ed_ixL (ev_var rfl) (ed_var rfl) (blD_get hi))) fun i _ _ => ed_var rfl)) fun v H' s k' sv e => hq v H' s (k.trans k') sv ?_
      rw [e]
      unfold compL
      rw [sw_end eE hs (by omega)]
      unfold cntD cnt
      rw [hm]
  · obtain ⟨r, d, ls, hl, hv, rk, hls, hm, hE⟩ := h
    have en := En.start (N := ["program", "size", "lines", "_", "numbers", "counts", "k", "word", "one", "other", "place", "beside"]) (ss := [.dat (.tup [d, .tup (ls.map fun l => .tup (.str l.1 :: l.2))])]) hv rk
    refine ⟨_, (pss_cons (ps_if (pt_not (pt_val (pe_cl c_is_plain hr (by decide) rfl (pa_cons (pv 0) pa_nil)))) (pss_one (ps_raise rfl (takes_of rfl rfl rfl rfl) (pmk_oex TX.oex iC tI FI (hr.mono (by decide : 2 ≤ 5)) bI .nil pass0 rfl TX.gC (pa_cons pe_str (pa_cons (pe_un un_neg pe_int) pa_nil))))) pss_nil) (pss_cons ps_never (pss_cons ps_never (pss_cons ps_never (pss_cons ps_never (pss_cons ps_never (pss_one ps_never))))))), ?_⟩
    refine q_take en ((eb_not (eb_B (ev_call' (ss := [.dat (.tup [d, .tup (ls.map fun l => .tup (.str l.1 :: l.2))])]) (ea_c (ed_var rfl) ea_nil) ⟨d, ls, rfl, hls, rfl⟩))).is (by rw [hm]; rfl)) fun H1 en k1 => ?_
    exact raise_out TX en k1 hE
end
end Zk

-- part ZY
namespace Zk
open PySem PySem.Spec PyProof.Rows L2 Zb Zr Zm RZ
local macro_rules | `(tactic| trivial) => `(tactic| first
  | with_reducible exact ed_int | with_reducible exact ed_str | with_reducible exact ed_bl | with_reducible exact ed_non | exact ed_var rfl
  | (with_reducible refine ed_neg ?_; trivial)
  | (with_reducible refine ed_i ?_ ?_ <;> trivial)
  | (with_reducible refine ed_c ?_ ?_ <;> trivial))
section
variable {r : Option Addr} {K : PySem.W.Frag} {G : List Sl} {σ : L2.St} {H : Hp} {ta : TA} {te : TE} {tb : TS} {D' : Ends} {j : Nat}
theorem l_zip {ds es : List D} {g : TG} (e : En r H σ G) (h : Ea r ta G (fun x => x = [.dat (.tup ds), .dat (.tup es)])) (hl : ds.length = es.length) (Pv : Hp → Nat → L2.St → Hp → Prop) (h0 : ∀ Hb, En r Hb σ G → Kp r H Hb → Pv Hb 0 σ Hb) (hk : ∀ Hb i σ' H', Pv Hb i σ' H' → Kx Hb H')
    (hs : ∀ Hb i d d2 v σ' H' H'', Kp r H Hb → ds[i]? = some d → es[i]? = some d2 → Pv Hb i σ' H' → Kp r H' H'' → Dt H'' v (.tup [d, d2]) → g v σ' H'' fun σ2 H2 => tb { D' with nx := Pv Hb (i + 1), ct := Pv Hb (i + 1), bk := D'.nx } σ2 H2)
    (hd : ∀ Hb σ' H', Kp r H Hb → Pv Hb ds.length σ' H' → D'.nx σ' H') : tFor (iZipA K ta) g tb D' σ H :=
  h σ H e _ fun vs Hb ss k2 sv p => by
    subst p
    cases sv with
    | cons a b =>
      cases b with
      | cons b c =>
        cases c
        cases a.d with
        | tup ha hds =>
          rename_i a1 xs
          cases b.d with
          | tup hb hes =>
            rename_i b1 ys
            have l1 := hds.length
            have l2 := hes.length
            refine ⟨a1, b1, xs, ys, rfl, .inr ⟨SqT.of ha, SqT.of hb, for_zipT (by omega) (Pv Hb) (h0 Hb (e.mono k2) k2) (fun i σ' H' p => ⟨SqT.of ((hk _ _ _ _ p).tup a1 xs ha), SqT.of ((hk _ _ _ _ p).tup b1 ys hb)⟩) (fun i x y T σ' H' hx hy p hT => ?_) (fun σ' H' p => hd Hb σ' H' k2 (l1 ▸ p))⟩⟩
            obtain ⟨d, hd1, hd2⟩ := hds.getV hx
            obtain ⟨d', he1, he2⟩ := hes.getV hy
            have kn : Kp r H' (L2.upd H' T (.tup [x, y])) := Kp.new hT
            exact hs Hb i d d' _ σ' H' _ k2 hd1 he1 p kn (.tup upd_same (.cons (kn.dt ((hk _ _ _ _ p).dt hd2)) (.cons (kn.dt ((hk _ _ _ _ p).dt he2)) .nil)))
theorem l_enumT {ds : List D} {g : TG} (e : En r H σ G) (h : Ea r ta G (fun x => x = [.dat (.tup ds)])) (Pv : Hp → Nat → L2.St → Hp → Prop) (h0 : ∀ Hb, En r Hb σ G → Kp r H Hb → Pv Hb 0 σ Hb) (hk : ∀ Hb i σ' H', Pv Hb i σ' H' → Kx Hb H')
    (hs : ∀ Hb i d v σ' H' H'', Kp r H Hb → ds[i]? = some d → Pv Hb i σ' H' → Kp r H' H'' → Dt H'' v (.tup [nD i, d]) → g v σ' H'' fun σ2 H2 => tb { D' with nx := Pv Hb (i + 1), ct := Pv Hb (i + 1), bk := D'.nx } σ2 H2)
    (hd : ∀ Hb σ' H', Kp r H Hb → Pv Hb ds.length σ' H' → D'.nx σ' H') : tFor (iEnumT K ta) g tb D' σ H :=
  h σ H e _ fun vs Hb ss k2 sv p => by
    subst p
    cases sv with
    | cons a b =>
      cases b
      cases a.d with
      | tup ha hds =>
        rename_i a1 xs
        have l1 := hds.length
        refine ⟨a1, xs, rfl, SqT.of ha, for_enumT (Pv Hb) (h0 Hb (e.mono k2) k2) (fun i σ' H' p => SqT.of ((hk _ _ _ _ p).tup a1 xs ha)) (fun i x T σ' H' hx p hT => ?_) (fun σ' H' p => hd Hb σ' H' k2 (l1 ▸ p))⟩
        obtain ⟨d, hd1, hd2⟩ := hds.getV hx
        have kn : Kp r H' (L2.upd H' T (.tup [.int (i : Nat), x])) := Kp.new hT
        exact hs Hb i d _ σ' H' _ k2 hd1 p kn (.tup upd_same (.cons (.int _) (.cons (kn.dt ((hk _ _ _ _ p).dt hd2)) .nil)))
end
mutual
def dFine : D → Bool
  | .tup ds => fines ds
  | .bl _ => false
  | .dct _ => false
  | _ => true
def fines : List D → Bool
  | [] => true
  | d :: ds => dFine d && fines ds
def dDep : D → Nat
  | .tup ds => deps ds + 1
  | _ => 0
def deps : List D → Nat
  | [] => 0
  | d :: ds => max (dDep d) (deps ds)
end
theorem fines_get : ∀ {ds : List D} {i : Nat} {d : D}, fines ds = true → ds[i]? = some d → dFine d = true ∧ dDep d ≤ deps ds
  | [], i, d, _, e => by simp at e
  | x :: ds, 0, d, h, e => by
    simp at e
    subst e
    have h' : (dFine x && fines ds) = true := h
    rw [Bool.and_eq_true] at h'
    exact ⟨h'.1, Nat.le_max_left _ _⟩
  | x :: ds, i + 1, d, h, e => by
    have h' : (dFine x && fines ds) = true := h
    rw [Bool.and_eq_true] at h'
    obtain ⟨a, b⟩ := fines_get h'.2 (i := i) (d := d) (by simpa using e)
    exact ⟨a, Nat.le_trans b (Nat.le_max_right _ _)⟩
def A_same (k : Nat) : CA := fun _ ss P => ∃ d : D, dFine d = true ∧ dDep d ≤ k ∧ ss = [.dat d, .dat d] ∧ P = fun s => s = .dat (.bl true)
section
variable {P : Program} {w : World} {K : PySem.W.Frag} {mg : Str → Option Value} {base : Heap} (T : Txt K mg)
include T
theorem ok_law_same_of {A0 : CA} {k j : Nat} (c_law_same : Cl P w K mg base j "_law_same" (Con 2 A0)) (hA : ∀ (r : Option Addr) (d : D), dFine d = true → dDep d < k → A0 r [.dat d, .dat d] (fun s => s = .dat (.bl true))) : Cl P w K mg base (j + 1) "_law_same" (Con 2 (A_same k)) := by
  refine mkCl T.d_law_same sc_law_same (fun _ _ _ _ _ _ us hl => match us, hl with | [_, _], _ => rfl) Con.len (fun f cdv A outer s H vs Q E hr h => ?_)
  obtain ⟨r, ss, PP, hl, ⟨d, hf, hdk, rfl, rfl⟩, hv, rk, hq⟩ := h
  have en := En.start (N := ["_law_told", "_law_due", "_law_one", "_law_other"]) hv rk
  refine ⟨_, (pss_cons (ps_if (pt_cmp (pc_isN (pv 1)) rfl) (pss_one (ps_ret (pe_cmp (pc_isN (pv 0)) rfl))) pss_nil) (pss_cons (ps_if (pt_val (pe_callB call_isi (by rfl) T.b_isinstance (by decide +kernel) (pa_cons (pv 1) (pa_cons (pe_bltn (v := .ty "tuple") (u := .type "tuple") (by rfl) T.b_tuple (by decide +kernel) rfl) pa_nil)))) (pss_cons (ps_if (PW.pt (pw_or (pt_not (pt_val (pe_callB call_isi (by rfl) T.b_isinstance (by decide +kernel) (pa_cons (pv 0) (pa_cons (pe_bltn (v := .ty "tuple") (u := .type "tuple") (by rfl) T.b_tuple (by decide +kernel) rfl) pa_nil))))) (pw_or1 (pt_cmpR op_ne (pe_callB (r := cLen K) call_len_seq (by rfl) T.b_len (by decide +kernel) (pa_cons (pv 0) pa_nil)) (pe_callB (r := cLen K) call_len_seq (by rfl) T.b_len (by decide +kernel) (pa_cons (pv 1) pa_nil)) (nomark _))))) (pss_one (ps_ret pe_bl)) pss_nil) (pss_cons (ps_for PassesOwn.never rfl (pi_zipA (by rfl) T.b_zip (pa_cons (pv 0) (pa_cons (pv 1) pa_nil))) (pg_tup (n := 2) rfl (pgs_cons (pg_name (i := 2) sc_law_same.nd rfl (Or.inl rfl)) (pgs_cons (pg_name (i := 3) sc_law_same.nd rfl (Or.inl rfl)) pgs_nil))) (pss_one (ps_if (pt_not (pt_val (pe_cl c_law_same hr (Nat.le_refl _) rfl (pa_cons (pv 2) (pa_cons (pv 3) pa_nil))))) (pss_one (ps_ret pe_bl)) pss_nil))) (pss_one (ps_ret pe_bl)))) pss_nil) (pss_cons (ps_if (pt_val (pe_callB call_isi (by rfl) T.b_isinstance (by decide +kernel) (pa_cons (pv 1) (pa_cons (pe_bltn (v := .ty "str") (u := .type "str") (by rfl) T.b_str (by decide +kernel) rfl) pa_nil)))) (pss_one (ps_ret (pe_and (pe_callB call_isi (by rfl) T.b_isinstance (by decide +kernel) (pa_cons (pv 0) (pa_cons (pe_bltn (v := .ty "str") (u := .type "str") (by rfl) T.b_str (by decide +kernel) rfl) pa_nil))) (pe_one (pe_cmpR op_eq (pv 0) (pv 1) (nomark _)))))) pss_nil) (pss_one (ps_ret (pe_and (pe_callB call_isi (by rfl) T.b_isinstance (by decide +kernel) (pa_cons (pv 0) (pa_cons (pe_bltn (v := .ty "int") (u := .type "int") (by rfl) T.b_int (by decide +kernel) rfl) pa_nil))) (pe_and (pe_not (pe_callB call_isi (by rfl) T.b_isinstance (by decide +kernel) (pa_cons (pv 0) (pa_cons (pe_bltn (v := .ty "bool") (u := .type "bool") (by rfl) T.b_bool (by decide +kernel) rfl) pa_nil)))) (pe_one (pe_cmpR op_eq (pv 0) (pv 1) (nomark _)))))))))), ?_⟩
  cases d with
  | bl b => cases hf
  | dct b => cases hf
  | non =>
    refine q_take en ((eb_test (ed_isN (ed_var rfl))).is rfl) fun H1 en k1 => ?_
    exact s_ret en (ed_isN (ed_var rfl)) fun v H' s k sv p => hq v H' s (k1.trans k) sv p
  | int i =>
    refine q_pass en ((eb_test (ed_isN (ed_var rfl))).is rfl) fun H1 en k1 => ?_
    refine q_pass en (eb_B (ed_isI (b := false) (ed_var rfl) (by decide +kernel))) fun H2 en k2 => ?_
    refine q_pass en (eb_B (ed_isI (b := false) (ed_var rfl) (by decide +kernel))) fun H3 en k3 => ?_
    refine s_ret en (ed_andV (ed_isI (b := true) (ed_var rfl) (by decide +kernel)) fun _ => ed_andV (ed_notV (ed_isI (b := false) (ed_var rfl) (by decide +kernel))) fun _ => ed_eqI (ed_var rfl) (ed_var rfl)) fun v H' s k sv p => hq v H' s (((k1.trans k2).trans k3).trans k) sv ?_
    rw [p]
    simp
  | str i =>
    refine q_pass en ((eb_test (ed_isN (ed_var rfl))).is rfl) fun H1 en k1 => ?_
    refine q_pass en (eb_B (ed_isS (b := false) (ed_var rfl) (by decide +kernel))) fun H2 en k2 => ?_
    refine q_take en (eb_B (ed_isS (b := true) (ed_var rfl) (by decide +kernel))) fun H3 en k3 => ?_
    refine s_ret en (ed_andV (ed_isS (b := true) (ed_var rfl) (by decide +kernel)) fun _ => ed_eqS (ed_var rfl) (ed_var rfl)) fun v H' s k sv p => hq v H' s (((k1.trans k2).trans k3).trans k) sv ?_
    rw [p]
    simp
  | tup ds =>
    refine q_pass en ((eb_test (ed_isN (ed_var rfl))).is rfl) fun H1 en k1 => ?_
    refine q_take en (eb_B (ed_isT (b := true) (ed_var rfl) (by decide +kernel))) fun H2 en k2 => ?_
    refine q_pass en ((eb_or (eb_not (eb_B (ed_isT (b := true) (ed_var rfl) (by decide +kernel)))) fun _ => eb_test (ed_neI (ed_lenT (ed_var rfl)) (ed_lenT (ed_var rfl)))).is (by simp)) fun H3 en k3 => ?_
    replace k3 := (k1.trans k2).trans k3
    have hdk' : deps ds + 1 ≤ k := hdk
    refine q_seq (l_zip (ds := ds) (es := ds) en (ea_c (ed_var rfl) (ea_c (ed_var rfl) ea_nil)) rfl (fun Hb i σ' H' => En r H' σ' [.dat (.tup ds), .dat (.tup ds), .any, .any] ∧ Kp r H H' ∧ Kx Hb H') (fun Hb en k => ⟨en, k3.trans k, Kx.refl _⟩) (fun Hb i σ' H' ⟨_, _, k⟩ => k) (fun Hb i d d2 v σ' H' H'' kb hd he ⟨en, k, kx⟩ kp hdt => ?_) fun Hb σ' H' kb ⟨en, k, kx⟩ => ?_)
    · rw [hd] at he
      cases he
      obtain ⟨f1, f2⟩ := fines_get (show fines ds = true from hf) hd
      refine g_two (en.mono kp) hdt fun σ2 en => ?_
      refine s_ifF en ((eb_not (eb_B (ev_call' (ss := [.dat d, .dat d]) (ea_c (ed_var rfl) (ea_c (ed_var rfl) ea_nil)) (hA r d f1 (by omega))))).is rfl) fun H4 en k4 => ?_
      exact ⟨En.drops [2, 3] en, (k.trans kp).trans k4, (kx.trans kp.kx).trans k4.kx⟩
    · dsimp only
      refine s_ret (D' := { nx := _, rt := Q }) en ed_bl fun v H' s k' sv p => ?_
      exact hq v H' s (k.trans k') sv p
theorem ok_law_same0 : Cl P w K mg base 1 "_law_same" (Con 2 fun _ _ _ => False) := by
  refine mkCl T.d_law_same sc_law_same (fun _ _ _ _ _ _ us hl => match us, hl with | [_, _], _ => rfl) Con.len (fun f cdv A outer s H vs Q E hr h => ?_)
  obtain ⟨r, ss, PP, hl, h, _⟩ := h
  exact h.elim
theorem ok_law_same : ∀ k : Nat, Cl P w K mg base (k + 2) "_law_same" (Con 2 (A_same k))
  | 0 => ok_law_same_of T (ok_law_same0 T) fun r d _ h => absurd h (Nat.not_lt_zero _)
  | k + 1 => ok_law_same_of T (ok_law_same k) fun r d h1 h2 => ⟨d, h1, by omega, rfl, rfl⟩
end
end Zk

-- part ZA1
namespace Zk
open PySem PySem.Spec PyProof.Rows L2 Zb Zr Zm RZ
local macro_rules | `(tactic| trivial) => `(tactic| first
  | with_reducible exact ed_int | with_reducible exact ed_str | with_reducible exact ed_bl | with_reducible exact ed_non | exact ed_var rfl
  | (with_reducible refine ed_neg ?_; trivial)
  | (with_reducible refine ed_i ?_ ?_ <;> trivial)
  | (with_reducible refine ed_c ?_ ?_ <;> trivial))
def bD (x : Nat × Nat) : D := .tup [nD x.1, nD x.2]
def bop (w : Wd) (x y : Nat × Nat) : Nat × Nat := (if w = .mul then x.1 + y.1 else max (x.1 + y.2) (y.1 + x.2) + 1, x.2 + y.2)
def bst (bs : List (Nat × Nat)) : Ln → Nat × Nat
  | .num q => (3, 2)
  | .op w a b => bop w (bs.getD a (0, 0)) (bs.getD b (0, 0))
def A_step : CA := fun _ ss P => ∃ (l : Ln) (p q u : Addr) (c : Cs) (n m : Nat) (bs : List (Nat × Nat)), ss = [.dat (lD l), .lst p (c.1.map loD), .lst q (c.2.map oD), .lst u (bs.map bD)] ∧ CI n m c ∧ n ≤ 8 ∧ bs.length = m ∧ LnOk m l ∧ (∀ a x, a < m → (c.at a).2 = some x → QB x) ∧ P = fun s => s = .dat (.tup [loD (cst c l).1, oD (cst c l).2, bD (bst bs l)])
section
variable {r : Option Addr} {K : PySem.W.Frag} {w : World} {G : List Sl} {te tb : TE}
theorem dec_cast (n : Nat) (l : List Nat) : decide ((n : Int) ∈ l.map fun k : Nat => (k : Int)) = decide (n ∈ l) := by
  by_cases h : n ∈ l
  · have : (n : Int) ∈ l.map fun k : Nat => (k : Int) := List.mem_map.mpr ⟨n, h, rfl⟩
    rw [decide_eq_true this, decide_eq_true h]
  · have : ¬ ((n : Int) ∈ l.map fun k : Nat => (k : Int)) := fun z => by
      obtain ⟨m, hm, e⟩ := List.mem_map.mp z
      have : m = n := by omega
      exact h (this ▸ hm)
    rw [decide_eq_false this, decide_eq_false h]
theorem lo_ints (l : List Nat) : loD l = .tup ((l.map fun k : Nat => (k : Int)).map D.int) := by
  unfold loD
  rw [List.map_map]
  rfl
theorem ed_inN {n : Nat} {l : List Nat} (h : Ed r te G (nD n)) (h2 : Ed r tb G (loD l)) : Ed r (tOp (rIn K false) te tb) G (.bl (decide (n ∈ l))) :=
  (ed_in (n := (n : Int)) h (h2.is (lo_ints l))).is (by rw [dec_cast])
theorem ed_notInN {n : Nat} {l : List Nat} (h : Ed r te G (nD n)) (h2 : Ed r tb G (loD l)) : Ed r (tOp (rIn K true) te tb) G (.bl (!decide (n ∈ l))) :=
  (ed_notIn (n := (n : Int)) h (h2.is (lo_ints l))).is (by rw [dec_cast])
theorem ed_inQ {x y : Option Qt} (h : Ed r te G (qD (0, 1))) (h2 : Ed r tb G (.tup [oD x, oD y])) : Ed r (tOp (Zr.rInT K) te tb) G (.bl (isZ x || isZ y)) := by
  refine (ed_inD h h2 rfl ?_ rfl ?_).is ?_
  · show ((oD x).nod && ((oD y).nod && true)) = true
    rw [oD_nod, oD_nod]
    rfl
  · cases x <;> cases y <;> rfl
  · congr 1
    show (PyData.eqv (oD x).pd (qD (0, 1)).pd || (PyData.eqv (oD y).pd (qD (0, 1)).pd || false)) = _
    rw [eqv_q, eqv_q, Bool.or_false]
end
theorem hu65_of {k : Nat} {A : Around} (hr : Room k A) : A.units + 65 < cLine := by
  have := hr.un
  omega
theorem wS_add (w : Wd) : decide (wS w = ("add" : Str)) = decide (w = .add) := by cases w <;> decide +kernel
theorem sign_ed {r : Option Addr} {G : List Sl} {te : TE} {wd : Wd} (h : Ed r te G (.str (wS wd))) : Ed r (tIf (tTest (tOp rEq te (tC (.str "add")))) (tC (.int 1)) (tUn (rU fun i => .int (-i)) (tC (.int 1)))) G (.int (if wd = .add then 1 else -1)) :=
  ev_if (eb_test (ed_eqS h ed_str)) (fun e => by
    rw [wS_add] at e
    rw [if_pos (of_decide_eq_true e)]
    exact ed_int) fun e => by
    rw [wS_add] at e
    rw [if_neg (of_decide_eq_false e)]
    exact ed_neg ed_int
section
variable {P : Program} {w : World} {K : PySem.W.Frag} {mg : Str → Option Value} {base : Heap} (T : Txt K mg)
include T
theorem ok_law_step (c_law_added : Cl P w K mg base 2 "_law_added" (Con 3 A_added)) (c_law_product : Cl P w K mg base 2 "_law_product" (Con 2 A_product)) : Cl P w K mg base 3 "_law_step" (Con 4 A_step) := by
  refine mkCl T.d_law_step sc_law_step (fun _ _ _ _ _ _ us hl => match us, hl with | [_, _, _, _], _ => rfl) Con.len (fun f cdv A outer s H vs Q E hr h => ?_)
  obtain ⟨r, ss, PP, hl, ⟨l, p, q, u, c, n, m, bs, rfl, hc, n8, hbs, hok, hqb, rfl⟩, hv, rk, hq⟩ := h
  have en := En.start (N := ["_law_line_here", "_law_lots", "_law_numbers", "_law_bits", "_law_one", "_law_other", "_law_top", "_law_bottom", "_law_lot", "_law_which"]) hv rk
  have hu65 := hu65_of hr
  refine ⟨_, (pss_cons (ps_if (pt_cmpR op_eq (pe_ix (r := rIxT K) ix_tup (pv 0) pe_int (fun _ _ => rfl)) pe_str (nomark _)) (pss_one (ps_ret (pe_tup (pa_cons (pe_tup pa_nil) (pa_cons (pe_ix (r := rIxT K) ix_tup (pv 0) pe_int (fun _ _ => rfl)) (pa_cons (pe_tup (pa_cons pe_int (pa_cons pe_int pa_nil))) pa_nil)))))) pss_nil) (pss_cons (ps_asg (pe_tup (pa_cons (pe_ix (r := rIxT K) ix_tup (pv 0) pe_int (fun _ _ => rfl)) (pa_cons (pe_ix (r := rIxT K) ix_tup (pv 0) pe_int (fun _ _ => rfl)) pa_nil))) (pg_tup (n := 2) rfl (pgs_cons (pg_name (i := 4) sc_law_step.nd rfl (Or.inr rfl)) (pgs_cons (pg_name (i := 5) sc_law_step.nd rfl (Or.inr rfl)) pgs_nil)))) (pss_cons (ps_par (i := 6) (j := 7) rfl sc_law_step.nd rfl rfl (by decide) rfl rfl (pa_cons (pe_op op_add (pe_ix (r := rIxT K) ix_tup (pe_ix (r := rIxL K) ix_list (pv 3) (pv 4) (fun _ _ => rfl)) pe_int (fun _ _ => rfl)) (pe_ix (r := rIxT K) ix_tup (pe_ix (r := rIxL K) ix_list (pv 3) (pv 5) (fun _ _ => rfl)) pe_int (fun _ _ => rfl))) (pa_cons (pe_op op_add (pe_ix (r := rIxT K) ix_tup (pe_ix (r := rIxL K) ix_list (pv 3) (pv 4) (fun _ _ => rfl)) pe_int (fun _ _ => rfl)) (pe_ix (r := rIxT K) ix_tup (pe_ix (r := rIxL K) ix_list (pv 3) (pv 5) (fun _ _ => rfl)) pe_int (fun _ _ => rfl))) pa_nil)) (by rfl)) (pss_cons (ps_if (PW.pt (pw_and (pt_cmpR op_eq (pe_ix (r := rIxT K) ix_tup (pv 0) pe_int (fun _ _ => rfl)) pe_str (nomark _)) (pw_and1 (pt_cmpR (r := rInT K) (op_inT hu65) (pe_tup (pa_cons pe_int (pa_cons pe_int pa_nil))) (pe_tup (pa_cons (pe_ix (r := rIxL K) ix_list (pv 2) (pv 4) (fun _ _ => rfl)) (pa_cons (pe_ix (r := rIxL K) ix_list (pv 2) (pv 5) (fun _ _ => rfl)) pa_nil))) (by rfl))))) (pss_one (ps_ret (pe_tup (pa_cons (pe_tup pa_nil) (pa_cons (pe_tup (pa_cons pe_int (pa_cons pe_int pa_nil))) (pa_cons (pe_tup (pa_cons (pv 6) (pa_cons (pv 7) pa_nil))) pa_nil)))))) pss_nil) (pss_cons (ps_if (pt_cmpR op_ne (pe_ix (r := rIxT K) ix_tup (pv 0) pe_int (fun _ _ => rfl)) pe_str (nomark _)) (pss_one (ps_set (i := 6) sc_law_step.nd rfl (Or.inl rfl) (pe_op op_add (pe_callB (call_max2 rfl) (by rfl) T.b_max (by decide +kernel) (pa_cons (pe_op op_add (pe_ix (r := rIxT K) ix_tup (pe_ix (r := rIxL K) ix_list (pv 3) (pv 4) (fun _ _ => rfl)) pe_int (fun _ _ => rfl)) (pe_ix (r := rIxT K) ix_tup (pe_ix (r := rIxL K) ix_list (pv 3) (pv 5) (fun _ _ => rfl)) pe_int (fun _ _ => rfl))) (pa_cons (pe_op op_add (pe_ix (r := rIxT K) ix_tup (pe_ix (r := rIxL K) ix_list (pv 3) (pv 5) (fun _ _ => rfl)) pe_int (fun _ _ => rfl)) (pe_ix (r := rIxT K) ix_tup (pe_ix (r := rIxL K) ix_list (pv 3) (pv 4) (fun _ _ => rfl)) pe_int (fun _ _ => rfl))) pa_nil))) pe_int))) pss_nil) (pss_cons (ps_set (i := 8) sc_law_step.nd rfl (Or.inl rfl) (pe_tupleOf rfl T.b_tuple (pe_lc (own := [("_law_which", 9)]) (g := gName 9) rfl sc_law_step.nd (pi_range1 rfl T.b_range (pa_cons pe_int pa_nil)) (blkOk_by (own := [("_law_which", 9)]) (N := ["_law_line_here", "_law_lots", "_law_numbers", "_law_bits", "_law_one", "_law_other", "_law_top", "_law_bottom", "_law_lot", "_law_which"]) (sc := defScope s_law_step) (by decide +kernel)) (fun _ _ _ _ _ => pg_name (i := 9) sc_law_step.nd rfl (Or.inl rfl)) (fun _ _ _ _ _ => (pts_one (PW.pt (pw_or (pt_cmpR (r := rIn K false) op_in_seq (pv 9) (pe_ix (r := rIxL K) ix_list (pv 1) (pv 4) (fun _ _ => rfl)) (by rfl)) (pw_or1 (pt_cmpR (r := rIn K false) op_in_seq (pv 9) (pe_ix (r := rIxL K) ix_list (pv 1) (pv 5) (fun _ _ => rfl)) (by rfl))))))) (fun _ _ _ _ _ => (pv 9))))) (pss_cons (ps_if (pt_truth (pv 8) (by intro _; rfl)) (pss_one (ps_ret (pe_tup (pa_cons (pv 8) (pa_cons pe_non (pa_cons (pe_tup (pa_cons (pv 6) (pa_cons (pv 7) pa_nil))) pa_nil)))))) pss_nil) (pss_cons (ps_if (pt_cmpR op_eq (pe_ix (r := rIxT K) ix_tup (pv 0) pe_int (fun _ _ => rfl)) pe_str (nomark _)) (pss_one (ps_ret (pe_tup (pa_cons (pv 8) (pa_cons (pe_cl c_law_product hr (by decide) rfl (pa_cons (pe_ix (r := rIxL K) ix_list (pv 2) (pv 4) (fun _ _ => rfl)) (pa_cons (pe_ix (r := rIxL K) ix_list (pv 2) (pv 5) (fun _ _ => rfl)) pa_nil))) (pa_cons (pe_tup (pa_cons (pv 6) (pa_cons (pv 7) pa_nil))) pa_nil)))))) pss_nil) (pss_one (ps_ret (pe_tup (pa_cons (pv 8) (pa_cons (pe_cl c_law_added hr (by decide) rfl (pa_cons (pe_ix (r := rIxL K) ix_list (pv 2) (pv 4) (fun _ _ => rfl)) (pa_cons (pe_ix (r := rIxL K) ix_list (pv 2) (pv 5) (fun _ _ => rfl)) (pa_cons (pe_ifExp (pt_cmpR op_eq (pe_ix (r := rIxT K) ix_tup (pv 0) pe_int (fun _ _ => rfl)) pe_str (nomark _)) pe_int (pe_un un_neg pe_int)) pa_nil)))) (pa_cons (pe_tup (pa_cons (pv 6) (pa_cons (pv 7) pa_nil))) pa_nil)))))))))))))), ?_⟩
  cases l with
  | num x =>
    refine q_take en ((eb_test (ed_eqS (ed_ix0 (ds := [qD x]) (ed_var rfl)) ed_str)).is (by decide +kernel)) fun H1 en k1 => ?_
    exact s_ret en (ed_tup (ds := [loD [], qD x, bD (3, 2)]) (ea_cd ed_t0 (ea_cd (ed_ix1 (c := .str "num") (ds := []) (ed_var rfl)) (ea_cd (ed_tup (ds := [.int 3, .int 2]) (ea_cd ed_int (ea_cd ed_int ea_n))) ea_n)))) fun v H' s k sv p => hq v H' s (k1.trans k) sv p
  | op wd a b =>
    have e0 : ∀ {r : Option Addr} {G : List Sl}, G[0]? = some (.dat (lD (.op wd a b))) → Ed r (tOp (rIxT K) (tVar 0) (tC (.int 0))) G (.str (wS wd)) := fun h => ed_ix0 (ds := [nD a, nD b]) (ed_var h)
    refine q_pass en ((eb_test (ed_eqS (e0 rfl) ed_str)).is (by cases wd <;> decide +kernel)) fun H1 en k1 => ?_
    refine q_two (d1 := nD a) (d2 := nD b) en (ed_tup (ea_cd (ed_ix1 (c := .str (wS wd)) (ds := [nD b]) (ed_var rfl)) (ea_cd (ed_ix2 (b := .str (wS wd)) (c := nD a) (ds := []) (ed_var rfl)) ea_n))) fun σ2 H2 en k2 => ?_
    replace k2 := k1.trans k2
    have ha : a < m := hok.1
    have hb : b < m := hok.2
    have ga : (c.2.map oD)[a]? = some (oD (c.at a).2) := get_map (by rw [hc.l2]; exact ha)
    have gb : (c.2.map oD)[b]? = some (oD (c.at b).2) := get_map (by rw [hc.l2]; exact hb)
    have fa : (c.1.map loD)[a]? = some (loD (c.at a).1) := get_map (by rw [hc.l1]; exact ha)
    have fb : (c.1.map loD)[b]? = some (loD (c.at b).1) := get_map (by rw [hc.l1]; exact hb)
    have ba : (bs.map bD)[a]? = some (bD (bs.getD a (0, 0))) := get_map (by rw [hbs]; exact ha)
    have bb : (bs.map bD)[b]? = some (bD (bs.getD b (0, 0))) := get_map (by rw [hbs]; exact hb)
    generalize hx : bs.getD a (0, 0) = x at ba
    generalize hy : bs.getD b (0, 0) = y at bb
    have xa : ∀ {r : Option Addr} {G : List Sl}, G[3]? = some (.lst u (bs.map bD)) → G[4]? = some (.dat (nD a)) → Ed r (tOp (rIxL K) (tVar 3) (tVar 4)) G (.tup [nD x.1, nD x.2]) := fun h1 h2 => ed_ixL (ev_var h1) (ed_var h2) ba
    have xb : ∀ {r : Option Addr} {G : List Sl}, G[3]? = some (.lst u (bs.map bD)) → G[5]? = some (.dat (nD b)) → Ed r (tOp (rIxL K) (tVar 3) (tVar 5)) G (.tup [nD y.1, nD y.2]) := fun h1 h2 => ed_ixL (ev_var h1) (ed_var h2) bb
    refine q_par (s1 := .dat (nD (x.1 + y.1))) (s2 := .dat (nD (x.2 + y.2))) en (ea_c (Ed.is (ed_i (f := fun i j => i + j) (ed_ix0 (xa rfl rfl)) (ed_ix0 (xb rfl rfl))) rfl) (ea_c (Ed.is (ed_i (f := fun i j => i + j) (ed_ix1 (xa rfl rfl)) (ed_ix1 (xb rfl rfl))) rfl) ea_nil)) fun σ3 H3 en k3 => ?_
    replace k3 := k2.trans k3
    have hst : bst bs (.op wd a b) = bop wd x y := by
      show bop wd (bs.getD a (0, 0)) (bs.getD b (0, 0)) = _
      rw [hx, hy]
    rw [hst] at hq
    refine q_if0 en (eb_and (eb_test (ed_eqS (e0 rfl) ed_str)) fun _ => eb_test (ed_inQ ed_q01 (ed_tup (ea_cd (ed_ixL (ev_var rfl) (ed_var rfl) ga) (ea_cd (ed_ixL (ev_var rfl) (ed_var rfl) gb) ea_n))))) (fun hz H4 en k4 => ?_) fun hz H4 en k4 => ?_
    · rw [Bool.and_eq_true, Bool.or_eq_true, wS_mul, decide_eq_true_eq] at hz
      have ec : cst c (.op wd a b) = ([], some (0, 1)) := by
        show cop wd _ _ = _
        unfold cop
        rw [if_pos hz]
      rw [ec] at hq
      have eb' : bop wd x y = (x.1 + y.1, x.2 + y.2) := by
        unfold bop
        rw [if_pos hz.1]
      rw [eb'] at hq
      exact s_ret en (ed_tup (ds := [loD [], qD (0, 1), bD (x.1 + y.1, x.2 + y.2)]) (ea_cd ed_t0 (ea_cd ed_q01 (ea_cd (ed_tup (ea_cd (ed_var rfl) (ea_cd (ed_var rfl) ea_n))) ea_n)))) fun v H' s k sv p => hq v H' s ((k3.trans k4).trans k) sv p
    · have ec : cst c (.op wd a b) = (un (c.at a).1 (c.at b).1, if un (c.at a).1 (c.at b).1 = [] then some (qop wd ((c.at a).2.getD (0, 1)) ((c.at b).2.getD (0, 1))) else none) := by
        show cop wd _ _ = _
        unfold cop
        rw [if_neg]
        rintro ⟨rfl, h2⟩
        rw [wS_mul, decide_eq_true rfl, Bool.true_and] at hz
        rcases h2 with h2 | h2
        · rw [h2] at hz
          cases hz
        · rw [h2, Bool.or_true] at hz
          cases hz
      rw [ec] at hq
      replace k4 := k3.trans k4
      refine q_ifJ (fun σ' H' => En r H' σ' [.dat (lD (.op wd a b)), .lst p (c.1.map loD), .lst q (c.2.map oD), .lst u (bs.map bD), .dat (nD a), .dat (nD b), .dat (nD (bop wd x y).1), .dat (nD (x.2 + y.2)), .any, .any] ∧ Kp r H H') en (eb_test (ed_neS (e0 rfl) ed_str)) (fun nx hnx hw H5 en k5 => ?_) (fun hw H5 en k5 => ?_) fun σ5 H5 h5 => ?_
      · rw [wS_mul] at hw
        have hw' : ¬ wd = .mul := by simpa using hw
        refine s_set en (s := .dat (nD (max (x.1 + y.2) (y.1 + x.2) + 1))) (Ed.is (ed_i (f := fun i j => i + j) (ed_max (ed_i (f := fun i j => i + j) (ed_ix0 (xa rfl rfl)) (ed_ix1 (xb rfl rfl))) (ed_i (f := fun i j => i + j) (ed_ix0 (xb rfl rfl)) (ed_ix1 (xa rfl rfl)))) ed_int) ?_) fun σ6 H6 en k6 => hnx _ _ ⟨?_, (k4.trans k5).trans k6⟩
        · unfold nD
          congr 1
          omega
        · have eb' : (bop wd x y).1 = max (x.1 + y.2) (y.1 + x.2) + 1 := by
            unfold bop
            rw [if_neg hw']
          rw [eb']
          exact en
      · rw [wS_mul] at hw
        have hw' : wd = .mul := by simpa using hw
        have eb' : (bop wd x y).1 = x.1 + y.1 := by
          unfold bop
          rw [if_pos hw']
        rw [eb']
        exact ⟨en, k4.trans k5⟩
      · obtain ⟨en, k5⟩ := h5
        have eb2 : bD (bop wd x y) = .tup [nD (bop wd x y).1, nD (x.2 + y.2)] := rfl
        refine q_set (s := .dat (loD (un (c.at a).1 (c.at b).1))) en (ed_tupOf (el_rng1 (n := 8) (f := fun k => decide (k ∈ (c.at a).1) || decide (k ∈ (c.at b).1)) (v := nD) (ea_c ed_int ea_nil) (by decide) (fun i _ => eb_or (eb_test (ed_inN (ed_var rfl) (ed_ixL (ev_var rfl) (ed_var rfl) fa))) fun _ => eb_test (ed_inN (ed_var rfl) (ed_ixL (ev_var rfl) (ed_var rfl) fb))) fun i _ _ => ed_var rfl)) fun σ6 H6 en k6 => ?_
        replace k6 := k5.trans k6
        refine q_if0 en (eb_truT (ed_var rfl)) (fun hu H7 en k7 => ?_) fun hu H7 en k7 => ?_
        · have hu' : ¬ un (c.at a).1 (c.at b).1 = [] := fun z => by
            rw [z] at hu
            cases hu
          rw [if_neg hu'] at hq
          exact s_ret en (ed_tup (ds := [loD (un (c.at a).1 (c.at b).1), .non, bD (bop wd x y)]) (ea_cd (ed_var rfl) (ea_cd ed_non (ea_cd (ed_tup (ea_cd (ed_var rfl) (ea_cd (ed_var rfl) ea_n))) ea_n)))) fun v H' s k sv p => hq v H' s ((k6.trans k7).trans k) sv p
        · have hu' : un (c.at a).1 (c.at b).1 = [] := by
            cases hz : un (c.at a).1 (c.at b).1 with
            | nil => rfl
            | cons k l =>
              rw [hz] at hu
              cases hu
          rw [if_pos hu'] at hq
          have la := hc.lot ha
          have lb := hc.lot hb
          obtain ⟨u1, u2⟩ := (un_nil (fun k hk => Nat.lt_of_lt_of_le (la.2 k hk) n8) fun k hk => Nat.lt_of_lt_of_le (lb.2 k hk) n8).mp hu'
          obtain ⟨x', hx'⟩ := Option.isSome_iff_exists.mp ((hc.sm a ha).mp u1)
          obtain ⟨y', hy'⟩ := Option.isSome_iff_exists.mp ((hc.sm b hb).mp u2)
          have gx : ∀ {r : Option Addr} {G : List Sl}, G[2]? = some (.lst q (c.2.map oD)) → G[4]? = some (.dat (nD a)) → Ed r (tOp (rIxL K) (tVar 2) (tVar 4)) G (qD x') := fun h1 h2 => (ed_ixL (ev_var h1) (ed_var h2) ga).is (by rw [hx']; rfl)
          have gy : ∀ {r : Option Addr} {G : List Sl}, G[2]? = some (.lst q (c.2.map oD)) → G[5]? = some (.dat (nD b)) → Ed r (tOp (rIxL K) (tVar 2) (tVar 5)) G (qD y') := fun h1 h2 => (ed_ixL (ev_var h1) (ed_var h2) gb).is (by rw [hy']; rfl)
          have qx := hqb a x' ha hx'
          have qy := hqb b y' hb hy'
          have e3 : (some (qop wd ((c.at a).2.getD (0, 1)) ((c.at b).2.getD (0, 1)))) = some (qop wd x' y') := by rw [hx', hy']; rfl
          rw [e3] at hq
          refine q_if0 en (eb_test (ed_eqS (e0 rfl) ed_str)) (fun hw H8 en k8 => ?_) fun hw H8 en k8 => ?_
          · rw [wS_mul] at hw
            have hw' : wd = .mul := of_decide_eq_true hw
            refine s_ret en (ed_tup (ds := [loD (un (c.at a).1 (c.at b).1), qD (qop wd x' y'), bD (bop wd x y)]) (ea_cd (ed_var rfl) (ea_cd (ev_call' (ss := [.dat (qD x'), .dat (qD y')]) (ea_c (gx rfl rfl) (ea_c (gy rfl rfl) ea_nil)) ⟨x', y', rfl, qx, qy, ?_⟩) (ea_cd (ed_tup (ea_cd (ed_var rfl) (ea_cd (ed_var rfl) ea_n))) ea_n)))) fun v H' s k sv p => hq v H' s (((k6.trans k7).trans k8).trans k) sv p
            rw [hw']
          · rw [wS_mul] at hw
            have hw' : wd ≠ .mul := of_decide_eq_false hw
            refine s_ret en (ed_tup (ds := [loD (un (c.at a).1 (c.at b).1), qD (qop wd x' y'), bD (bop wd x y)]) (ea_cd (ed_var rfl) (ea_cd (ev_call' (ss := [.dat (qD x'), .dat (qD y'), .dat (.int (if wd = .add then 1 else -1))]) (ea_c (gx rfl rfl) (ea_c (gy rfl rfl) (ea_c (sign_ed (e0 rfl)) ea_nil))) ⟨x', y', wd, hw', rfl, qx, qy, rfl⟩) (ea_cd (ed_tup (ea_cd (ed_var rfl) (ea_cd (ed_var rfl) ea_n))) ea_n)))) fun v H' s k sv p => hq v H' s (((k6.trans k7).trans k8).trans k) sv p
end
end Zk

-- part ZMathC
namespace Zk
open Zb Zm
/-- the tracked bits hold -/
structure BV (n : Nat) (ls : List Ln) (bs : List (Nat × Nat)) : Prop where
  len : bs.length = n + ls.length
  ins : ∀ j, j < n → bs.getD j (0, 0) = (3, 0)
  cap : ∀ x ∈ bs, x.1 ≤ 1200 ∧ x.2 ≤ 600
  val : ∀ pt, PtOk n pt → ∀ i, i < n + ls.length → QLt ((vrun pt ls).getD i (0, 1)) (bs.getD i (0, 0)).1 (bs.getD i (0, 0)).2
theorem bv0 (n : Nat) : BV n [] (List.replicate n (3, 0)) := by
  refine ⟨by simp, fun j hj => ?_, fun x hx => ?_, fun pt hp i hi => ?_⟩
  · rw [List.getD_eq_getElem?_getD, List.getElem?_replicate, if_pos hj]
    rfl
  · rw [List.eq_of_mem_replicate hx]
    decide
  · have e : (List.replicate n (3, 0)).getD i (0, 0) = (3, 0) := by
      rw [List.getD_eq_getElem?_getD, List.getElem?_replicate, if_pos (show i < n from hi)]
      rfl
    rw [e]
    exact (hp.2 _ (getD_mem (l := pt) (by rw [hp.1]; exact hi))).2
theorem BV.step {n : Nat} {ls : List Ln} {bs : List (Nat × Nat)} (h : BV n ls bs) (hr : Rn n ls) {l : Ln} (hl : LnOk (n + ls.length) l) (c1 : (bst bs l).1 ≤ 1200) (c2 : (bst bs l).2 ≤ 600) : BV n (ls ++ [l]) (bs ++ [bst bs l]) := by
  refine ⟨by rw [List.length_append, List.length_append, h.len, List.length_singleton, List.length_singleton, Nat.add_assoc], fun j hj => ?_, fun x hx => ?_, fun pt hp i hi => ?_⟩
  · rw [getD_app_left (by rw [h.len]; omega)]
    exact h.ins j hj
  · rcases List.mem_append.mp hx with e | e
    · exact h.cap x e
    · rw [List.mem_singleton.mp e]
      exact ⟨c1, c2⟩
  · have hlen := vrun_len pt ls
    rw [hp.1] at hlen
    rw [vrun_snoc]
    rw [List.length_append, List.length_singleton] at hi
    rcases Nat.lt_or_ge i (n + ls.length) with hi' | hi'
    · rw [getD_app_left (by omega), getD_app_left (by rw [h.len]; exact hi')]
      exact h.val pt hp i hi'
    · have ei : i = n + ls.length := by omega
      subst ei
      have e1 : ((vrun pt ls) ++ [vst (vrun pt ls) l]).getD (n + ls.length) (0, 1) = vst (vrun pt ls) l := by
        rw [← hlen]
        exact getD_app_last
      have e2 : (bs ++ [bst bs l]).getD (n + ls.length) (0, 0) = bst bs l := by
        rw [← h.len]
        exact getD_app_last
      rw [e1, e2]
      cases l with
      | num q => exact ⟨Nat.le_trans hl.2.1 (show 4 ≤ 2 ^ 3 by decide), Nat.le_trans hl.2.2 (show 3 ≤ 2 ^ 2 by decide)⟩
      | op w a b =>
        have va := h.val pt hp a hl.1
        have vb := h.val pt hp b hl.2
        refine qop_le va vb ?_ (Nat.le_refl _)
        cases w with
        | mul => exact Nat.le_refl _
        | add =>
          refine ⟨?_, ?_⟩
          · exact Nat.succ_le_succ (Nat.le_max_left _ _)
          · exact Nat.succ_le_succ (Nat.le_max_right _ _)
        | sub =>
          refine ⟨?_, ?_⟩
          · exact Nat.succ_le_succ (Nat.le_max_left _ _)
          · exact Nat.succ_le_succ (Nat.le_max_right _ _)
theorem BV.vb {n : Nat} {ls : List Ln} {bs : List (Nat × Nat)} (h : BV n ls bs) (hr : Rn n ls) : VB n ls := fun pt hp q hq => by
  refine ⟨vrun_ok hp hr q hq, ?_⟩
  obtain ⟨i, hi⟩ := List.getElem?_of_mem hq
  have hlen := vrun_len pt ls
  rw [hp.1] at hlen
  have hlt := (List.getElem?_eq_some_iff.mp hi).1
  have e : (vrun pt ls).getD i (0, 1) = q := by rw [List.getD_eq_getElem?_getD, hi]; rfl
  have v := h.val pt hp i (by omega)
  rw [e] at v
  have c := h.cap _ (getD_mem (l := bs) (i := i) (d := (0, 0)) (by rw [h.len]; omega))
  exact v.mono (by omega) (by omega)
theorem map_at {α β : Type} (g : α → β) (d : α) : ∀ l : List α, l.map g = (List.range l.length).map fun i => g (l.getD i d) := by
  intro l
  apply List.ext_getElem?
  intro i
  rcases Nat.lt_or_ge i l.length with hi | hi
  · rw [List.getElem?_map, List.getElem?_map, List.getElem?_range hi, List.getElem?_eq_getElem hi]
    show some (g l[i]) = some (g (l.getD i d))
    rw [List.getD_eq_getElem?_getD, List.getElem?_eq_getElem hi]
    rfl
  · rw [List.getElem?_eq_none (by simpa using hi), List.getElem?_eq_none (by simpa using hi)]
end Zk

-- part ZMathD
/-! Forms, in plain Lean. -/
namespace Zk
open Zb Zm
section
variable {β : Type}
def glook (t : List (List Nat × β)) (k : List Nat) : Option β := (t.find? fun p => decide (p.1 = k)).map (·.2)
def gput (t : List (List Nat × β)) (k : List Nat) (v : β) : List (List Nat × β) := if (t.any fun p => decide (p.1 = k)) = true then t.map (fun p => if p.1 = k then (p.1, v) else p) else t ++ [(k, v)]
def gdrop (t : List (List Nat × β)) (k : List Nat) : List (List Nat × β) := t.filter fun p => decide (p.1 ≠ k)
theorem glook_nil (k : List Nat) : glook ([] : List (List Nat × β)) k = none := rfl
theorem glook_pos {p : List Nat × β} {t : List (List Nat × β)} {k : List Nat} (h : p.1 = k) : glook (p :: t) k = some p.2 := by simp [glook, h]
theorem glook_neg {p : List Nat × β} {t : List (List Nat × β)} {k : List Nat} (h : ¬ p.1 = k) : glook (p :: t) k = glook t k := by simp [glook, h]
theorem gany (k : List Nat) : ∀ t : List (List Nat × β), (t.any fun p => decide (p.1 = k)) = (glook t k).isSome
  | [] => rfl
  | p :: t => by
    by_cases h : p.1 = k
    · rw [glook_pos h]
      simp [h]
    · rw [glook_neg h, ← gany k t]
      simp [h]
theorem glook_app {t u : List (List Nat × β)} {k : List Nat} : glook (t ++ u) k = (glook t k).or (glook u k) := by
  induction t with
  | nil => rfl
  | cons p t ih =>
    by_cases h : p.1 = k
    · rw [List.cons_append, glook_pos h, glook_pos h]
      rfl
    · rw [List.cons_append, glook_neg h, glook_neg h]
      exact ih
theorem glook_mapv {t : List (List Nat × β)} {k k' : List Nat} {v : β} : glook (t.map fun p => if p.1 = k then (p.1, v) else p) k' = if k' = k then (glook t k').map (fun _ => v) else glook t k' := by
  induction t with
  | nil => simp [glook]
  | cons p t ih =>
    have e1 : ((if p.1 = k then (p.1, v) else p) : List Nat × β).1 = p.1 := by split <;> rfl
    rw [List.map_cons]
    by_cases h : p.1 = k'
    · rw [glook_pos (e1.trans h), glook_pos h]
      by_cases h2 : p.1 = k
      · rw [if_pos h2, if_pos (h.symm.trans h2)]
        rfl
      · rw [if_neg h2, if_neg (fun z => h2 (h.trans z))]
    · rw [glook_neg (by rw [e1]; exact h), glook_neg h]
      exact ih
theorem glook_put {t : List (List Nat × β)} {k k' : List Nat} {v : β} : glook (gput t k v) k' = if k' = k then some v else glook t k' := by
  unfold gput
  rw [gany]
  cases h : glook t k with
  | none =>
    rw [if_neg (show ¬ (none : Option β).isSome = true from fun z => nomatch z), glook_app]
    by_cases e : k' = k
    · subst e
      rw [h, if_pos rfl, glook_pos rfl]
      rfl
    · rw [if_neg e, glook_neg (fun z => e z.symm), glook_nil]
      cases glook t k' <;> rfl
  | some d =>
    rw [if_pos (show (some d).isSome = true from rfl), glook_mapv]
    by_cases e : k' = k
    · subst e
      rw [if_pos rfl, if_pos rfl, h]
      rfl
    · rw [if_neg e, if_neg e]
theorem gput_fresh {t : List (List Nat × β)} {k : List Nat} {v : β} (h : k ∉ t.map (·.1)) : gput t k v = t ++ [(k, v)] := by
  unfold gput
  rw [if_neg]
  intro z
  obtain ⟨p, hp, e⟩ := List.any_eq_true.mp z
  exact h (List.mem_map.mpr ⟨p, hp, of_decide_eq_true e⟩)
theorem keys_put {t : List (List Nat × β)} {k : List Nat} {v : β} : (gput t k v).map (·.1) = if k ∈ t.map (·.1) then t.map (·.1) else t.map (·.1) ++ [k] := by
  by_cases h : k ∈ t.map (·.1)
  · rw [if_pos h]
    unfold gput
    rw [if_pos (by
      obtain ⟨p, hp, e⟩ := List.mem_map.mp h
      exact List.any_eq_true.mpr ⟨p, hp, by simp [e]⟩), List.map_map]
    refine List.map_congr_left fun p _ => ?_
    show ((if p.1 = k then (p.1, v) else p) : List Nat × β).1 = p.1
    split <;> rfl
  · rw [if_neg h, gput_fresh h, List.map_append]
    rfl
theorem nodup_put {t : List (List Nat × β)} {k : List Nat} {v : β} (h : (t.map (·.1)).Nodup) : ((gput t k v).map (·.1)).Nodup := by
  rw [keys_put]
  split
  · exact h
  · rename_i hk
    rw [List.nodup_append]
    refine ⟨h, by simp, fun a ha b hb => ?_⟩
    rw [List.mem_singleton.mp hb]
    intro z
    subst z
    exact hk ha
theorem len_put {t : List (List Nat × β)} {k : List Nat} {v : β} : (gput t k v).length ≤ t.length + 1 := by
  unfold gput
  split
  · rw [List.length_map]
    omega
  · rw [List.length_append]
    exact Nat.le_refl _
theorem look_mem {t : List (List Nat × β)} {k : List Nat} {v : β} (h : glook t k = some v) : (k, v) ∈ t := by
  unfold glook at h
  obtain ⟨p, h1, h2⟩ := Option.map_eq_some_iff.mp h
  have h3 := List.find?_some h1
  have h4 := List.mem_of_find?_eq_some h1
  have h5 : p.1 = k := of_decide_eq_true h3
  rw [← h5, ← h2]
  exact h4
theorem mem_look : ∀ {t : List (List Nat × β)} {k : List Nat} {v : β}, (t.map (·.1)).Nodup → (k, v) ∈ t → glook t k = some v
  | [], _, _, _, h => nomatch h
  | p :: t, k, v, hn, h => by
    rw [List.map_cons, List.nodup_cons] at hn
    rcases List.mem_cons.mp h with e | e
    · subst e
      exact glook_pos rfl
    · rw [glook_neg (fun z => hn.1 (by rw [z]; exact List.mem_map.mpr ⟨_, e, rfl⟩))]
      exact mem_look hn.2 e
theorem glook_drop {t : List (List Nat × β)} {k k' : List Nat} : glook (gdrop t k) k' = if k' = k then none else glook t k' := by
  induction t with
  | nil => simp [glook, gdrop]
  | cons p t ih =>
    have ih' : glook (t.filter fun p => decide (p.1 ≠ k)) k' = if k' = k then none else glook t k' := ih
    unfold gdrop
    by_cases h : p.1 = k
    · rw [List.filter_cons_of_neg (by simpa using h), ih']
      by_cases e : k' = k
      · rw [if_pos e, if_pos e]
      · rw [if_neg e, if_neg e, glook_neg fun z => e (z.symm.trans h)]
    · rw [List.filter_cons_of_pos (by simpa using h)]
      by_cases e : p.1 = k'
      · rw [glook_pos e, if_neg fun z => h (e.trans z), glook_pos e]
      · rw [glook_neg e, glook_neg e]
        exact ih'
theorem nodup_drop {t : List (List Nat × β)} {k : List Nat} (h : (t.map (·.1)).Nodup) : ((gdrop t k).map (·.1)).Nodup :=
  List.Nodup.sublist (List.Sublist.map _ List.filter_sublist) h
end
abbrev Tm := List (List Nat × Qt)
abbrev Fm := List Nat × Tm
def sh (m : Nat) (k : List Nat) : List Nat := k.map (· + m)
theorem sh_inj {m : Nat} : ∀ {a b : List Nat}, sh m a = sh m b → a = b
  | [], [], _ => rfl
  | [], _ :: _, h => nomatch h
  | _ :: _, [], h => nomatch h
  | x :: a, y :: b, h => by
    have h' : (x + m) :: sh m a = (y + m) :: sh m b := h
    rw [List.cons.injEq] at h'
    rw [sh_inj h'.2, show x = y by omega]
theorem mem_sh {m c : Nat} {k : List Nat} : c ∈ sh m k ↔ ∃ x ∈ k, c = x + m := by
  unfold sh
  rw [List.mem_map]
  constructor
  · rintro ⟨x, h, e⟩
    exact ⟨x, h, e.symm⟩
  · rintro ⟨x, h, e⟩
    exact ⟨x, h, e.symm⟩
structure FI (n B : Nat) (F : Fm) : Prop where
  nd : (F.2.map (·.1)).Nodup
  val : ∀ k v, glook F.2 k = some v → QOk v ∧ v.1 ≠ 0 ∧ QLt v B B ∧ (∀ c ∈ k, c < F.1.length) ∧ k.length ≤ F.1.length
  cp : ∀ x ∈ F.1, x < n
  cl : F.1.length ≤ 9
  tl : F.2.length ≤ 48
def stand (n : Nat) (F : Fm) : List Nat := (List.range n).filter fun w => F.2.any fun p => p.1.any fun c => decide (F.1.getD c 0 = w)
def fnum (n : Nat) (F : Fm) : Option Qt := if stand n F = [] then some ((glook F.2 []).getD (0, 1)) else none
def fC (n : Nat) (F : Fm) : List Nat × Option Qt := (stand n F, fnum n F)
theorem mem_stand {n B : Nat} {F : Fm} (h : FI n B F) {k : Nat} : k ∈ stand n F ↔ ∃ b v, glook F.2 b = some v ∧ ∃ c ∈ b, F.1.getD c 0 = k := by
  unfold stand
  rw [List.mem_filter, List.mem_range, List.any_eq_true]
  constructor
  · rintro ⟨_, p, hp, hc⟩
    obtain ⟨c, h1, h2⟩ := List.any_eq_true.mp hc
    exact ⟨p.1, p.2, mem_look h.nd hp, c, h1, of_decide_eq_true h2⟩
  · rintro ⟨b, v, hb, c, h1, h2⟩
    refine ⟨?_, (b, v), look_mem hb, List.any_eq_true.mpr ⟨c, h1, by simpa using h2⟩⟩
    have hc := (h.val b v hb).2.2.2.1 c h1
    rw [← h2]
    exact h.cp _ (getD_mem hc)
theorem stand_nil {n B : Nat} {F : Fm} (h : FI n B F) : stand n F = [] ↔ ∀ b v, glook F.2 b = some v → b = [] := by
  rw [nil_iff]
  constructor
  · intro hk b v hb
    cases b with
    | nil => rfl
    | cons c b => exact absurd ((mem_stand h).mpr ⟨_, v, hb, c, List.mem_cons_self .., rfl⟩) (hk _)
  · intro hb k hk
    obtain ⟨b, v, h1, c, h2, _⟩ := (mem_stand h).mp hk
    rw [hb b v h1] at h2
    cases h2
theorem fz {n B : Nat} {F : Fm} (h : FI n B F) : isZ (fnum n F) = true ↔ F.2 = [] := by
  unfold isZ fnum
  rw [decide_eq_true_eq]
  constructor
  · intro e
    split at e
    · rename_i hs
      have e' := Option.some.inj e
      have hall := (stand_nil h).mp hs
      cases hF : F.2 with
      | nil => rfl
      | cons p t =>
        have hp := mem_look (k := p.1) (v := p.2) h.nd (by rw [hF]; exact List.mem_cons_self ..)
        have := hall _ _ hp
        rw [this] at hp
        rw [hp] at e'
        have hv := (h.val _ _ hp).2.1
        exfalso
        apply hv
        have e2 : p.2 = (0, 1) := e'
        rw [e2]
    · cases e
  · intro e
    have hs : stand n F = [] := (stand_nil h).mpr fun b v hb => by
      rw [e] at hb
      cases hb
    rw [if_pos hs, e]
    rfl
/-! numbers, inputs -/
def numF (q : Qt) : Fm := if q.1 = 0 then ([], []) else ([], [([], q)])
theorem numF_ok {n : Nat} {q : Qt} (h : QSm q) : FI n 100 (numF q) ∧ fC n (numF q) = ([], some q) := by
  unfold numF
  by_cases h0 : q.1 = 0
  · rw [if_pos h0]
    have hF : FI n 100 (([], []) : Fm) := ⟨by simp, fun k v e => (nomatch e), fun x hx => (nomatch hx), by decide, by decide⟩
    refine ⟨hF, ?_⟩
    have hs : stand n ([], []) = [] := (stand_nil hF).mpr fun b v e => nomatch e
    unfold fC fnum
    rw [hs, q_zero h.1 h0]
    rfl
  · rw [if_neg h0]
    have hl : ∀ k v, glook ([([], q)] : Tm) k = some v → k = [] ∧ v = q := fun k v e => by
      have := look_mem e
      rw [List.mem_singleton, Prod.mk.injEq] at this
      exact this
    have hF : FI n 100 (([], [([], q)]) : Fm) := by
      refine ⟨by simp, fun k v e => ?_, fun x hx => (nomatch hx), (show 0 ≤ 9 by decide), (show 1 ≤ 48 by decide)⟩
      obtain ⟨rfl, rfl⟩ := hl k v e
      refine ⟨h.1, h0, ⟨Nat.le_trans h.2.1 (by decide), Nat.le_trans h.2.2 (by decide)⟩, fun c hc => (nomatch hc), Nat.le_refl _⟩
    refine ⟨hF, ?_⟩
    have hs : stand n ([], [([], q)]) = [] := (stand_nil hF).mpr fun b v e => (hl b v e).1
    unfold fC fnum
    rw [hs]
    rfl
def inF (j : Nat) : Fm := ([j], [([0], (1, 1))])
theorem inF_ok {n j : Nat} (hj : j < n) : FI n 100 (inF j) ∧ fC n (inF j) = ([j], none) := by
  have hl : ∀ k v, glook ([([0], (1, 1))] : Tm) k = some v → k = [0] ∧ v = (1, 1) := fun k v e => by
    have := look_mem e
    rw [List.mem_singleton, Prod.mk.injEq] at this
    exact this
  have hF : FI n 100 (inF j) := by
    refine ⟨by simp [inF], fun k v e => ?_, fun x hx => ?_, (show 1 ≤ 9 by decide), (show 1 ≤ 48 by decide)⟩
    · obtain ⟨rfl, rfl⟩ := hl k v e
      refine ⟨⟨by decide, by decide⟩, by decide, ⟨by decide, by decide⟩, fun c hc => ?_, Nat.le_refl _⟩
      rw [List.mem_singleton.mp hc]
      exact Nat.zero_lt_one
    · rw [List.mem_singleton.mp hx]
      exact hj
  refine ⟨hF, ?_⟩
  have hs : stand n (inF j) = [j] := by
    refine rise_ext (rise_range _ _) (by simp) fun k => ?_
    rw [mem_stand hF, List.mem_singleton]
    constructor
    · rintro ⟨b, v, hb, c, hc, e⟩
      obtain ⟨rfl, rfl⟩ := hl b v hb
      rw [List.mem_singleton.mp hc] at e
      exact e.symm
    · intro e
      exact ⟨[0], (1, 1), rfl, 0, List.mem_cons_self .., e.symm⟩
  unfold fC fnum
  rw [hs]
  rfl
end Zk

-- part ZMathE
/-! Forms put together. -/
namespace Zk
open Zb Zm
def addS (w : Wd) (m : Nat) (acc : Tm) (q : List Nat × Qt) : Tm := gput acc (sh m q.1) (qop w ((glook acc (sh m q.1)).getD (0, 1)) q.2)
theorem addS_look {w : Wd} {m : Nat} : ∀ {gs : Tm} {acc : Tm}, (gs.map (·.1)).Nodup → (∀ b v, glook gs b = some v → glook (gs.foldl (addS w m) acc) (sh m b) = some (qop w ((glook acc (sh m b)).getD (0, 1)) v)) ∧ ∀ k, (∀ b v, glook gs b = some v → k ≠ sh m b) → glook (gs.foldl (addS w m) acc) k = glook acc k
  | [], acc, _ => ⟨fun b v e => (nomatch e), fun k _ => rfl⟩
  | g :: gs, acc, hn => by
    rw [List.map_cons, List.nodup_cons] at hn
    obtain ⟨h1, h2⟩ := addS_look (w := w) (m := m) (gs := gs) (acc := addS w m acc g) hn.2
    have hg : ∀ v, glook gs g.1 ≠ some v := fun v e => hn.1 (List.mem_map.mpr ⟨_, look_mem e, rfl⟩)
    constructor
    · intro b v hb
      rw [List.foldl_cons]
      by_cases e : g.1 = b
      · rw [glook_pos e] at hb
        cases hb
        rw [h2 _ fun b' v' hb' z => hg v' (by rw [e, sh_inj z]; exact hb')]
        unfold addS
        rw [glook_put, if_pos (by rw [e]), e]
      · rw [glook_neg e] at hb
        rw [h1 b v hb]
        unfold addS
        rw [glook_put, if_neg fun z => e (sh_inj z).symm]
    · intro k hk
      rw [List.foldl_cons, h2 k fun b v hb => hk b v (by
        by_cases e : g.1 = b
        · exact absurd (e ▸ hb) (hg v)
        · rw [glook_neg e]
          exact hb)]
      unfold addS
      rw [glook_put, if_neg (hk g.1 g.2 (glook_pos rfl))]
theorem addS_nd {w : Wd} {m : Nat} : ∀ {gs : Tm} {acc : Tm}, (acc.map (·.1)).Nodup → ((gs.foldl (addS w m) acc).map (·.1)).Nodup
  | [], _, h => h
  | g :: gs, acc, h => addS_nd (gs := gs) (nodup_put h)
theorem addS_len {w : Wd} {m : Nat} : ∀ {gs : Tm} {acc : Tm}, (gs.foldl (addS w m) acc).length ≤ acc.length + gs.length
  | [], _ => Nat.le_refl _
  | g :: gs, acc => by
    have h1 := addS_len (w := w) (m := m) (gs := gs) (acc := addS w m acc g)
    have h2 : (addS w m acc g).length ≤ acc.length + 1 := len_put
    rw [List.foldl_cons, List.length_cons]
    omega
def addT (w : Wd) (F G : Fm) : Tm := G.2.foldl (addS w F.1.length) F.2
def addF (w : Wd) (F G : Fm) : Fm := (F.1 ++ G.1, if ((glook (addT w F G) []).getD (1, 1)).1 = 0 then gdrop (addT w F G) [] else addT w F G)
/-- what a sum has at a bundle -/
theorem addF_look {n : Nat} {w : Wd} (hw : w ≠ .mul) {F G : Fm} (hF : FI n 100 F) (hG : FI n 100 G) {k : List Nat} {v : Qt} :
    glook (addF w F G).2 k = some v ↔ (k ≠ [] ∧ glook F.2 k = some v) ∨ (∃ b x, b ≠ [] ∧ k = sh F.1.length b ∧ glook G.2 b = some x ∧ v = qop w (0, 1) x) ∨ (k = [] ∧ v.1 ≠ 0 ∧ (F.2 ≠ [] ∧ (glook F.2 []).isSome ∨ (glook G.2 []).isSome) ∧ v = qop w ((glook F.2 []).getD (0, 1)) ((glook G.2 []).getD (0, 1))) := by
  obtain ⟨h1, h2⟩ := addS_look (w := w) (m := F.1.length) (gs := G.2) (acc := F.2) hG.nd
  have s0 : sh F.1.length [] = [] := rfl
  -- look of the sum before the drop
  have hT0 : ∀ k, k ≠ [] → (glook (addT w F G) k = some v ↔ glook F.2 k = some v ∨ ∃ b x, b ≠ [] ∧ k = sh F.1.length b ∧ glook G.2 b = some x ∧ v = qop w (0, 1) x) := by
    intro k hk
    by_cases hb : ∃ b x, k = sh F.1.length b ∧ glook G.2 b = some x
    · obtain ⟨b, x, e, hx⟩ := hb
      have bn : b ≠ [] := fun z => by
        rw [z] at e
        exact hk e
      have hFn : glook F.2 k = none := by
        cases hq : glook F.2 k with
        | none => rfl
        | some y =>
          obtain ⟨c, b', rfl⟩ : ∃ c b', b = c :: b' := by
            cases b with
            | nil => exact absurd rfl bn
            | cons c b' => exact ⟨c, b', rfl⟩
          have := (hF.val k y hq).2.2.2.1 (c + F.1.length) (by rw [e]; exact List.mem_cons_self ..)
          omega
      have e1 := h1 b x hx
      rw [← e, hFn] at e1
      show glook (G.2.foldl (addS w F.1.length) F.2) k = some v ↔ _
      rw [e1, hFn]
      constructor
      · intro z
        exact .inr ⟨b, x, bn, e, hx, (Option.some.inj z).symm⟩
      · rintro (z | ⟨b', x', _, e', hx', rfl⟩)
        · cases z
        · have := sh_inj (e.symm.trans e')
          subst this
          rw [hx] at hx'
          cases hx'
          rfl
    · show glook (G.2.foldl (addS w F.1.length) F.2) k = some v ↔ _
      rw [h2 k fun b x hx e => hb ⟨b, x, e, hx⟩]
      constructor
      · exact .inl
      · rintro (z | ⟨b', x', _, e', hx', _⟩)
        · exact z
        · exact absurd ⟨b', x', e', hx'⟩ hb
  have hT1 : glook (addT w F G) [] = match glook G.2 [] with | some x => some (qop w ((glook F.2 []).getD (0, 1)) x) | none => glook F.2 [] := by
    cases hq : glook G.2 [] with
    | some x => exact h1 [] x hq
    | none =>
      refine h2 [] fun b x hx e => ?_
      have : b = [] := (sh_inj (m := F.1.length) (b := []) e.symm)
      rw [this, hq] at hx
      cases hx
  have hfin : glook (addF w F G).2 k = if k = [] ∧ ((glook (addT w F G) []).getD (1, 1)).1 = 0 then none else glook (addT w F G) k := by
    show glook (if ((glook (addT w F G) []).getD (1, 1)).1 = 0 then gdrop (addT w F G) [] else addT w F G) k = _
    by_cases hz : ((glook (addT w F G) []).getD (1, 1)).1 = 0
    · rw [if_pos hz, glook_drop]
      by_cases hk : k = []
      · rw [if_pos hk, if_pos ⟨hk, hz⟩]
      · rw [if_neg hk, if_neg fun z => hk z.1]
    · rw [if_neg hz, if_neg fun z => hz z.2]
  rw [hfin]
  by_cases hk : k = []
  · subst hk
    have r1 : ∀ {P Q : Prop}, (([] : List Nat) ≠ [] ∧ P ∨ (∃ b x, b ≠ [] ∧ ([] : List Nat) = sh F.1.length b ∧ glook G.2 b = some x ∧ v = qop w (0, 1) x) ∨ (([] : List Nat) = [] ∧ Q)) ↔ Q := fun {P Q} => by
      constructor
      · rintro (⟨z, _⟩ | ⟨b, x, hb, e, _⟩ | ⟨_, z⟩)
        · exact absurd rfl z
        · exact absurd (sh_inj (m := F.1.length) (b := []) e.symm) hb
        · exact z
      · exact fun z => .inr (.inr ⟨rfl, z⟩)
    rw [r1, hT1]
    cases hg : glook G.2 [] with
    | some x =>
      show (if ([] : List Nat) = [] ∧ (qop w ((glook F.2 []).getD (0, 1)) x).1 = 0 then none else some (qop w ((glook F.2 []).getD (0, 1)) x)) = some v ↔ v.1 ≠ 0 ∧ (_ ∨ (some x).isSome = true) ∧ v = qop w ((glook F.2 []).getD (0, 1)) x
      by_cases hz : (qop w ((glook F.2 []).getD (0, 1)) x).1 = 0
      · rw [if_pos ⟨rfl, hz⟩]
        constructor
        · intro z
          cases z
        · rintro ⟨a, _, b⟩
          rw [b] at a
          exact absurd hz a
      · rw [if_neg fun z => hz z.2]
        constructor
        · intro z
          have := Option.some.inj z
          subst this
          exact ⟨hz, .inr rfl, rfl⟩
        · rintro ⟨_, _, b⟩
          rw [b]
    | none =>
      show (if ([] : List Nat) = [] ∧ ((glook F.2 []).getD (1, 1)).1 = 0 then none else glook F.2 []) = some v ↔ v.1 ≠ 0 ∧ ((F.2 ≠ [] ∧ (glook F.2 []).isSome = true) ∨ (none : Option Qt).isSome = true) ∧ v = qop w ((glook F.2 []).getD (0, 1)) (0, 1)
      cases hf : glook F.2 [] with
      | none =>
        rw [if_neg (show ¬ (([] : List Nat) = [] ∧ ((none : Option Qt).getD (1, 1)).1 = 0) by decide)]
        constructor
        · intro z
          cases z
        · rintro ⟨_, (⟨_, z⟩ | z), _⟩
          · cases z
          · cases z
      | some y =>
        have hy := hF.val [] y hf
        show (if ([] : List Nat) = [] ∧ y.1 = 0 then none else some y) = some v ↔ v.1 ≠ 0 ∧ ((F.2 ≠ [] ∧ (some y).isSome = true) ∨ _) ∧ v = qop w y (0, 1)
        rw [if_neg fun z => hy.2.1 z.2, qadd_zero_right hw hy.1]
        constructor
        · intro z
          have := Option.some.inj z
          subst this
          refine ⟨hy.2.1, .inl ⟨fun z => ?_, rfl⟩, rfl⟩
          rw [z] at hf
          cases hf
        · rintro ⟨_, _, b⟩
          rw [b]
  · rw [if_neg fun z => hk z.1, hT0 k hk]
    constructor
    · rintro (z | z)
      · exact .inl ⟨hk, z⟩
      · exact .inr (.inl z)
    · rintro (z | z | ⟨z, _⟩)
      · exact .inl z.2
      · exact .inr z
      · exact absurd z hk
theorem qop_dest {w : Wd} {x y : Qt} (hx : QOk x ∧ QLt x 100 100) (hy : QOk y ∧ QLt y 100 100) : QOk (qop w x y) ∧ QLt (qop w x y) 201 201 :=
  ⟨qop_ok hx.1 hy.1, qop_le hx.2 hy.2 (by cases w <;> decide) (by decide)⟩
theorem zq : QOk (0, 1) ∧ QLt (0, 1) 100 100 := ⟨qok_zero, qlt_zero⟩
theorem FI.vq {n : Nat} {F : Fm} (h : FI n 100 F) {k : List Nat} {v : Qt} (e : glook F.2 k = some v) : QOk v ∧ QLt v 100 100 := ⟨(h.val k v e).1, (h.val k v e).2.2.1⟩
theorem FI.gq {n : Nat} {F : Fm} (h : FI n 100 F) (k : List Nat) : QOk ((glook F.2 k).getD (0, 1)) ∧ QLt ((glook F.2 k).getD (0, 1)) 100 100 := by
  cases e : glook F.2 k with
  | none => exact zq
  | some v => exact h.vq e
theorem addF_ok {n : Nat} {w : Wd} (hw : w ≠ .mul) {F G : Fm} (hF : FI n 100 F) (hG : FI n 100 G) (h9 : F.1.length + G.1.length ≤ 9) (h48 : F.2.length + G.2.length ≤ 48) : FI n 201 (addF w F G) := by
  refine ⟨?_, fun k v e => ?_, fun x hx => ?_, by show (F.1 ++ G.1).length ≤ 9; rw [List.length_append]; exact h9, ?_⟩
  · show ((if ((glook (addT w F G) []).getD (1, 1)).1 = 0 then gdrop (addT w F G) [] else addT w F G).map (·.1)).Nodup
    have := addS_nd (w := w) (m := F.1.length) (gs := G.2) hF.nd
    split
    · exact nodup_drop this
    · exact this
  · have hl : (addF w F G).1.length = F.1.length + G.1.length := by show (F.1 ++ G.1).length = _; rw [List.length_append]
    rw [hl]
    rcases (addF_look hw hF hG).mp e with ⟨_, h⟩ | ⟨b, x, _, rfl, hx, rfl⟩ | ⟨rfl, hv, _, rfl⟩
    · have := hF.val k v h
      exact ⟨this.1, this.2.1, this.2.2.1.mono (by decide) (by decide), fun c hc => Nat.lt_of_lt_of_le (this.2.2.2.1 c hc) (Nat.le_add_right _ _), Nat.le_trans this.2.2.2.2 (Nat.le_add_right _ _)⟩
    · have := hG.val b x hx
      refine ⟨(qop_dest zq (hG.vq hx)).1, qsign_ne hw this.1 this.2.1, (qop_dest zq (hG.vq hx)).2, fun c hc => ?_, ?_⟩
      · obtain ⟨y, hy, rfl⟩ := mem_sh.mp hc
        have := this.2.2.2.1 y hy
        omega
      · have := this.2.2.2.2
        unfold sh
        rw [List.length_map]
        omega
    · exact ⟨(qop_dest (hF.gq []) (hG.gq [])).1, hv, (qop_dest (hF.gq []) (hG.gq [])).2, fun c hc => (nomatch hc), Nat.zero_le _⟩
  · rcases List.mem_append.mp hx with h | h
    · exact hF.cp x h
    · exact hG.cp x h
  · show (if ((glook (addT w F G) []).getD (1, 1)).1 = 0 then gdrop (addT w F G) [] else addT w F G).length ≤ 48
    have := addS_len (w := w) (m := F.1.length) (gs := G.2) (acc := F.2)
    have h2 : (addT w F G).length ≤ 48 := Nat.le_trans this h48
    split
    · exact Nat.le_trans (List.length_filter_le _ _) h2
    · exact h2
theorem getD_l {a b : List Nat} {c : Nat} (h : c < a.length) : (a ++ b).getD c 0 = a.getD c 0 := getD_app_left h
theorem getD_r {a b : List Nat} {c : Nat} : (a ++ b).getD (c + a.length) 0 = b.getD c 0 := by
  rw [List.getD_eq_getElem?_getD, List.getD_eq_getElem?_getD, List.getElem?_append_right (Nat.le_add_left _ _), Nat.add_sub_cancel]
theorem addF_mem {n : Nat} {w : Wd} (hw : w ≠ .mul) {F G : Fm} (hF : FI n 100 F) (hG : FI n 100 G) (hJ : FI n 201 (addF w F G)) {k : Nat} : k ∈ stand n (addF w F G) ↔ k ∈ stand n F ∨ k ∈ stand n G := by
  rw [mem_stand hJ, mem_stand hF, mem_stand hG]
  constructor
  · rintro ⟨b, v, hb, c, hc, e⟩
    have e' : (F.1 ++ G.1).getD c 0 = k := e
    rcases (addF_look hw hF hG).mp hb with ⟨_, h⟩ | ⟨b', x, _, rfl, hx, _⟩ | ⟨rfl, _⟩
    · rw [getD_l ((hF.val b v h).2.2.2.1 c hc)] at e'
      exact .inl ⟨b, v, h, c, hc, e'⟩
    · obtain ⟨y, hy, rfl⟩ := mem_sh.mp hc
      rw [getD_r] at e'
      exact .inr ⟨b', x, hx, y, hy, e'⟩
    · cases hc
  · rintro (⟨b, v, hb, c, hc, e⟩ | ⟨b, v, hb, c, hc, e⟩)
    · have bn : b ≠ [] := fun z => by
        rw [z] at hc
        cases hc
      refine ⟨b, v, (addF_look hw hF hG).mpr (.inl ⟨bn, hb⟩), c, hc, ?_⟩
      show (F.1 ++ G.1).getD c 0 = k
      rw [getD_l ((hF.val b v hb).2.2.2.1 c hc)]
      exact e
    · have bn : b ≠ [] := fun z => by
        rw [z] at hc
        cases hc
      refine ⟨sh F.1.length b, _, (addF_look hw hF hG).mpr (.inr (.inl ⟨b, v, bn, rfl, hb, rfl⟩)), c + F.1.length, mem_sh.mpr ⟨c, hc, rfl⟩, ?_⟩
      show (F.1 ++ G.1).getD (c + F.1.length) 0 = k
      rw [getD_r]
      exact e
theorem stand_rise (n : Nat) (F : Fm) : (stand n F).Pairwise (· < ·) := rise_range _ _
theorem stand_lt {n : Nat} {F : Fm} {k : Nat} (h : k ∈ stand n F) : k < n := List.mem_range.mp (List.mem_filter.mp h).1
theorem addF_C {n : Nat} (n8 : n ≤ 8) {w : Wd} (hw : w ≠ .mul) {F G : Fm} (hF : FI n 100 F) (hG : FI n 100 G) (hJ : FI n 201 (addF w F G)) : fC n (addF w F G) = cop w (fC n F) (fC n G) := by
  have hs : stand n (addF w F G) = un (stand n F) (stand n G) := by
    refine rise_ext (stand_rise _ _) (un_rise _ _) fun k => ?_
    rw [addF_mem hw hF hG hJ, mem_un]
    constructor
    · intro h
      refine ⟨?_, h⟩
      rcases h with h | h
      · exact Nat.lt_of_lt_of_le (stand_lt h) n8
      · exact Nat.lt_of_lt_of_le (stand_lt h) n8
    · exact fun h => h.2
  unfold cop
  rw [if_neg fun z => hw z.1]
  show (stand n (addF w F G), fnum n (addF w F G)) = (un (stand n F) (stand n G), if un (stand n F) (stand n G) = [] then some (qop w ((fnum n F).getD (0, 1)) ((fnum n G).getD (0, 1))) else none)
  have hnum : fnum n (addF w F G) = if un (stand n F) (stand n G) = [] then some (qop w ((fnum n F).getD (0, 1)) ((fnum n G).getD (0, 1))) else none := by
    show (if stand n (addF w F G) = [] then some ((glook (addF w F G).2 []).getD (0, 1)) else none) = _
    rw [hs]
    by_cases hu : un (stand n F) (stand n G) = []
    · rw [if_pos hu, if_pos hu]
      obtain ⟨u1, u2⟩ := (un_nil (fun k hk => Nat.lt_of_lt_of_le (stand_lt hk) n8) fun k hk => Nat.lt_of_lt_of_le (stand_lt hk) n8).mp hu
      have e1 : (fnum n F).getD (0, 1) = (glook F.2 []).getD (0, 1) := by unfold fnum; rw [if_pos u1]; rfl
      have e2 : (fnum n G).getD (0, 1) = (glook G.2 []).getD (0, 1) := by unfold fnum; rw [if_pos u2]; rfl
      rw [e1, e2]
      congr 1
      have key : ∀ v, glook (addF w F G).2 [] = some v ↔ v.1 ≠ 0 ∧ (F.2 ≠ [] ∧ (glook F.2 []).isSome ∨ (glook G.2 []).isSome) ∧ v = qop w ((glook F.2 []).getD (0, 1)) ((glook G.2 []).getD (0, 1)) := fun v => by
        rw [addF_look hw hF hG]
        constructor
        · rintro (⟨z, _⟩ | ⟨b, x, hb, e, _⟩ | ⟨_, z⟩)
          · exact absurd rfl z
          · exact absurd (sh_inj (m := F.1.length) (b := []) e.symm) hb
          · exact z
        · exact fun z => .inr (.inr ⟨rfl, z⟩)
      have okq := (qop_dest (w := w) (hF.gq []) (hG.gq [])).1
      cases hl : glook (addF w F G).2 [] with
      | some v => exact ((key v).mp hl).2.2
      | none =>
        show (0, 1) = _
        by_cases hz : (qop w ((glook F.2 []).getD (0, 1)) ((glook G.2 []).getD (0, 1))).1 = 0
        · exact (q_zero okq hz).symm
        · by_cases hc : F.2 ≠ [] ∧ (glook F.2 []).isSome ∨ (glook G.2 []).isSome
          · rw [(key _).mpr ⟨hz, hc, rfl⟩] at hl
            cases hl
          · have f0 : glook F.2 [] = none := by
              cases hf : glook F.2 [] with
              | none => rfl
              | some y =>
                exfalso
                apply hc
                left
                refine ⟨fun z => ?_, by rw [hf]; rfl⟩
                rw [z] at hf
                cases hf
            have g0 : glook G.2 [] = none := by
              cases hf : glook G.2 [] with
              | none => rfl
              | some y =>
                exfalso
                apply hc
                right
                rw [hf]
                rfl
            rw [f0, g0]
            exact (qadd_zero_right hw qok_zero).symm
    · rw [if_neg hu, if_neg hu]
  rw [hnum, hs]
/-! products -/
def mulT (F G : Fm) : Tm := F.2.flatMap fun p => G.2.map fun q => (p.1 ++ sh F.1.length q.1, qop .mul p.2 q.2)
def mulF (F G : Fm) : Fm := (F.1 ++ G.1, mulT F G)
theorem app_inj {m : Nat} : ∀ {a b c d : List Nat}, (∀ x ∈ a, x < m) → (∀ x ∈ c, x < m) → a ++ sh m b = c ++ sh m d → a = c ∧ b = d
  | [], b, [], d, _, _, e => ⟨rfl, sh_inj e⟩
  | [], [], _ :: _, _, _, _, e => nomatch e
  | [], y :: b, z :: c, d, _, hc, e => by
    have e' : (y + m) :: sh m b = z :: (c ++ sh m d) := e
    rw [List.cons.injEq] at e'
    have := hc z (List.mem_cons_self ..)
    omega
  | x :: a, b, [], d, ha, _, e => by
    cases d with
    | nil => cases e
    | cons w d =>
      have e' : x :: (a ++ sh m b) = (w + m) :: sh m d := e
      rw [List.cons.injEq] at e'
      have := ha x (List.mem_cons_self ..)
      omega
  | x :: a, b, z :: c, d, ha, hc, e => by
    have e' : x :: (a ++ sh m b) = z :: (c ++ sh m d) := e
    rw [List.cons.injEq] at e'
    obtain ⟨h1, h2⟩ := app_inj (fun y hy => ha y (List.mem_cons_of_mem _ hy)) (fun y hy => hc y (List.mem_cons_of_mem _ hy)) e'.2
    rw [h1, e'.1]
    exact ⟨rfl, h2⟩
theorem mulT_nd {n : Nat} {F G : Fm} (hF : FI n 100 F) (hG : FI n 100 G) : ((mulT F G).map (·.1)).Nodup := by
  unfold List.Nodup mulT
  rw [List.pairwise_map, List.pairwise_flatMap]
  have nF : F.2.Pairwise fun p q => p.1 ≠ q.1 := List.pairwise_map.mp hF.nd
  have nG : G.2.Pairwise fun p q => p.1 ≠ q.1 := List.pairwise_map.mp hG.nd
  have lt : ∀ p ∈ F.2, ∀ x ∈ p.1, x < F.1.length := fun p hp => (hF.val p.1 p.2 (mem_look hF.nd hp)).2.2.2.1
  refine ⟨fun p hp => ?_, ?_⟩
  · rw [List.pairwise_map]
    refine nG.imp fun {q q'} hne e => hne ?_
    exact (app_inj (lt p hp) (lt p hp) e).2
  · refine List.Pairwise.imp_of_mem (fun {p p'} hp hp' hne x hx y hy e => ?_) nF
    obtain ⟨q, hq, rfl⟩ := List.mem_map.mp hx
    obtain ⟨q', hq', rfl⟩ := List.mem_map.mp hy
    exact hne (app_inj (lt p hp) (lt p' hp') e).1
theorem mulT_look {n : Nat} {F G : Fm} (hF : FI n 100 F) (hG : FI n 100 G) {k : List Nat} {v : Qt} : glook (mulT F G) k = some v ↔ ∃ b x c y, glook F.2 b = some x ∧ glook G.2 c = some y ∧ k = b ++ sh F.1.length c ∧ v = qop .mul x y := by
  constructor
  · intro h
    obtain ⟨p, hp, hq⟩ := List.mem_flatMap.mp (look_mem h)
    obtain ⟨q, hq2, e⟩ := List.mem_map.mp hq
    cases e
    exact ⟨p.1, p.2, q.1, q.2, mem_look hF.nd hp, mem_look hG.nd hq2, rfl, rfl⟩
  · rintro ⟨b, x, c, y, h1, h2, rfl, rfl⟩
    exact mem_look (mulT_nd hF hG) (List.mem_flatMap.mpr ⟨(b, x), look_mem h1, List.mem_map.mpr ⟨(c, y), look_mem h2, rfl⟩⟩)
theorem mulT_len (F G : Fm) : (mulT F G).length = F.2.length * G.2.length := by
  unfold mulT
  rw [List.length_flatMap]
  have : (F.2.map fun p => (G.2.map fun q => (p.1 ++ sh F.1.length q.1, qop .mul p.2 q.2)).length) = List.replicate F.2.length G.2.length := map_const fun p _ => by rw [List.length_map]
  rw [this, List.sum_replicate_nat]
theorem mulF_ok {n : Nat} {F G : Fm} (hF : FI n 100 F) (hG : FI n 100 G) (h9 : F.1.length + G.1.length ≤ 9) (h48 : F.2.length * G.2.length ≤ 48) : FI n 201 (mulF F G) := by
  refine ⟨mulT_nd hF hG, fun k v e => ?_, fun x hx => ?_, by show (F.1 ++ G.1).length ≤ 9; rw [List.length_append]; exact h9, by show (mulT F G).length ≤ 48; rw [mulT_len]; exact h48⟩
  · have hl : (mulF F G).1.length = F.1.length + G.1.length := by show (F.1 ++ G.1).length = _; rw [List.length_append]
    rw [hl]
    obtain ⟨b, x, c, y, h1, h2, rfl, rfl⟩ := (mulT_look hF hG).mp e
    have a1 := hF.val b x h1
    have a2 := hG.val c y h2
    refine ⟨qop_ok a1.1 a2.1, qmul_ne a1.1 a2.1 a1.2.1 a2.2.1, (qop_dest (hF.vq h1) (hG.vq h2)).2, fun z hz => ?_, ?_⟩
    · rcases List.mem_append.mp hz with h | h
      · have := a1.2.2.2.1 z h
        omega
      · obtain ⟨t, ht, rfl⟩ := mem_sh.mp h
        have := a2.2.2.2.1 t ht
        omega
    · have := a1.2.2.2.2
      have := a2.2.2.2.2
      rw [List.length_append]
      unfold sh
      rw [List.length_map]
      omega
  · rcases List.mem_append.mp hx with h | h
    · exact hF.cp x h
    · exact hG.cp x h
theorem mulF_C {n : Nat} (n8 : n ≤ 8) {F G : Fm} (hF : FI n 100 F) (hG : FI n 100 G) (hJ : FI n 201 (mulF F G)) : fC n (mulF F G) = cop .mul (fC n F) (fC n G) := by
  unfold cop
  show fC n (mulF F G) = if Wd.mul = .mul ∧ (isZ (fnum n F) = true ∨ isZ (fnum n G) = true) then ([], some (0, 1)) else (un (stand n F) (stand n G), if un (stand n F) (stand n G) = [] then some (qop .mul ((fnum n F).getD (0, 1)) ((fnum n G).getD (0, 1))) else none)
  have hzz : (isZ (fnum n F) = true ∨ isZ (fnum n G) = true) ↔ (F.2 = [] ∨ G.2 = []) := by rw [fz hF, fz hG]
  by_cases hz : F.2 = [] ∨ G.2 = []
  · rw [if_pos ⟨rfl, hzz.mpr hz⟩]
    have hT : mulT F G = [] := by
      apply List.eq_nil_of_length_eq_zero
      rw [mulT_len]
      rcases hz with z | z
      · rw [z, List.length_nil, Nat.zero_mul]
      · rw [z, List.length_nil, Nat.mul_zero]
    have hs : stand n (mulF F G) = [] := (stand_nil hJ).mpr fun b v h => by
      have h' : glook (mulT F G) b = some v := h
      rw [hT] at h'
      cases h'
    unfold fC fnum
    rw [if_pos hs, hs]
    show ([], some ((glook (mulT F G) []).getD (0, 1))) = _
    rw [hT]
    rfl
  · rw [if_neg fun z => hz (hzz.mp z.2)]
    have hFn : ∃ b x, glook F.2 b = some x := by
      cases hF2 : F.2 with
      | nil => exact absurd (.inl hF2) hz
      | cons p t => exact ⟨p.1, p.2, glook_pos rfl⟩
    have hGn : ∃ b x, glook G.2 b = some x := by
      cases hG2 : G.2 with
      | nil => exact absurd (.inr hG2) hz
      | cons p t => exact ⟨p.1, p.2, glook_pos rfl⟩
    obtain ⟨b0, x0, hb0⟩ := hFn
    obtain ⟨c0', y0, hc0⟩ := hGn
    have hs : stand n (mulF F G) = un (stand n F) (stand n G) := by
      refine rise_ext (stand_rise _ _) (un_rise _ _) fun k => ?_
      rw [mem_un, mem_stand hJ, mem_stand hF, mem_stand hG]
      constructor
      · rintro ⟨b, v, hb, c, hc, e⟩
        have e' : (F.1 ++ G.1).getD c 0 = k := e
        obtain ⟨b', x, d, y, h1, h2, rfl, rfl⟩ := (mulT_look hF hG).mp hb
        rcases List.mem_append.mp hc with h | h
        · have hlt := (hF.val b' x h1).2.2.2.1 c h
          rw [getD_l hlt] at e'
          refine ⟨?_, .inl ⟨b', x, h1, c, h, e'⟩⟩
          have := hF.cp _ (getD_mem (d := 0) hlt)
          rw [← e']
          omega
        · obtain ⟨t, ht, rfl⟩ := mem_sh.mp h
          rw [getD_r] at e'
          refine ⟨?_, .inr ⟨d, y, h2, t, ht, e'⟩⟩
          have := hG.cp _ (getD_mem (d := 0) ((hG.val d y h2).2.2.2.1 t ht))
          rw [← e']
          omega
      · rintro ⟨_, (⟨b, v, hb, c, hc, e⟩ | ⟨b, v, hb, c, hc, e⟩)⟩
        · refine ⟨_, _, (mulT_look hF hG).mpr ⟨b, v, c0', y0, hb, hc0, rfl, rfl⟩, c, List.mem_append_left _ hc, ?_⟩
          show (F.1 ++ G.1).getD c 0 = k
          rw [getD_l ((hF.val b v hb).2.2.2.1 c hc)]
          exact e
        · refine ⟨_, _, (mulT_look hF hG).mpr ⟨b0, x0, b, v, hb0, hb, rfl, rfl⟩, c + F.1.length, List.mem_append_right _ (mem_sh.mpr ⟨c, hc, rfl⟩), ?_⟩
          show (F.1 ++ G.1).getD (c + F.1.length) 0 = k
          rw [getD_r]
          exact e
    have hnum : fnum n (mulF F G) = if un (stand n F) (stand n G) = [] then some (qop .mul ((fnum n F).getD (0, 1)) ((fnum n G).getD (0, 1))) else none := by
      show (if stand n (mulF F G) = [] then some ((glook (mulT F G) []).getD (0, 1)) else none) = _
      rw [hs]
      by_cases hu : un (stand n F) (stand n G) = []
      · rw [if_pos hu, if_pos hu]
        obtain ⟨u1, u2⟩ := (un_nil (fun k hk => Nat.lt_of_lt_of_le (stand_lt hk) n8) fun k hk => Nat.lt_of_lt_of_le (stand_lt hk) n8).mp hu
        have e0 := (stand_nil hF).mp u1 b0 x0 hb0
        have e1 := (stand_nil hG).mp u2 c0' y0 hc0
        subst e0 e1
        have en1 : (fnum n F).getD (0, 1) = x0 := by unfold fnum; rw [if_pos u1, hb0]; rfl
        have en2 : (fnum n G).getD (0, 1) = y0 := by unfold fnum; rw [if_pos u2, hc0]; rfl
        have hl : glook (mulT F G) [] = some (qop .mul x0 y0) := (mulT_look hF hG).mpr ⟨[], x0, [], y0, hb0, hc0, rfl, rfl⟩
        rw [en1, en2, hl]
        rfl
      · rw [if_neg hu, if_neg hu]
    unfold fC
    rw [hnum, hs]
end Zk

-- part ZDk
/-! Loops over a dict's keys, an own dict that grows. -/
namespace Zk
open PySem PySem.Spec PyProof.Rows L2 Zb Zr Zm
theorem for_keysT {d : Addr} {o : Obj} {kvs : List (List Key × V)} {g : TG} {tb : TS} {D : Ends} {σ : L2.St} {H : Hp} (Pv : Nat → L2.St → Hp → Prop) (h0 : Pv 0 σ H) (hq : ∀ i σ H, Pv i σ H → H d = some (.frz o (.dT kvs)))
    (hs : ∀ (i : Nat) (k : List Key) (v : V) (q : Addr) (σ : L2.St) (H : Hp), kvs[i]? = some (k, v) → H q = some (.tup (k.map kV)) → Pv i σ H → g (.ref q) σ H fun σ2 H2 => tb { D with nx := Pv (i + 1), ct := Pv (i + 1), bk := D.nx } σ2 H2) (hd : ∀ σ H, Pv kvs.length σ H → D.nx σ H) :
    ∃ W : Nat → Nat → L2.St → Hp → Prop, (∃ m, W 0 m σ H) ∧ ∀ i m σ H, W i m σ H →
      ((Itkt d o kvs).stop i H ∧ D.nx σ H) ∨ ((Itkt d o kvs).go i H ∧ ∃ N : L2.St → Hp → Prop, (∀ σ' H', N σ' H' → ∃ m', m' < m ∧ W (i + 1) m' σ' H') ∧ ∀ v H', (Itkt d o kvs).yld i H v H' → g v σ H' fun σ2 H2 => tb { D with nx := N, ct := N, bk := D.nx } σ2 H2) := by
  refine ⟨fun i m σ H => m = kvs.length - i ∧ i ≤ kvs.length ∧ Pv i σ H, ⟨kvs.length, rfl, Nat.zero_le _, h0⟩, ?_⟩
  rintro i m σ H ⟨rfl, hi, p⟩
  have qx := hq i σ H p
  by_cases hlt : i < kvs.length
  · refine .inr ⟨⟨qx, hlt⟩, Pv (i + 1), fun σ' H' p' => ⟨kvs.length - (i + 1), by omega, rfl, hlt, p'⟩, fun v H' y => ?_⟩
    obtain ⟨rfl, k, w, q, hk, rfl, hq'⟩ := y
    exact hs i k w q σ H' hk hq' p
  · have e : i = kvs.length := by omega
    subst e
    exact .inl ⟨⟨qx, Nat.le_refl _⟩, hd σ H p⟩
section
variable {r : Option Addr} {K : PySem.W.Frag} {G : List Sl} {σ : L2.St} {H H0 : Hp} {ta : TA} {te tv : TE} {tb u : TS} {D' : Ends} {i j : Nat}
theorem keyLo {H : Hp} {q : Addr} : ∀ {b : List Nat} {k : List Key}, k = kK b → H q = some (.tup (k.map kV)) → Dt H (.ref q) (loD b) := fun {b k} e h => by
  subst e
  have key : ∀ b : List Nat, DtAll H ((kK b).map kV) (b.map nD) := fun b => by
    induction b with
    | nil => exact .nil
    | cons n b ih => exact .cons (.int _) ih
  exact .tup h (key b)
theorem DtKs.at {H : Hp} : ∀ {vs : List (List Key × V)} {ds : List (List Nat × D)} {i : Nat} {k : List Key} {v : V}, DtKs H vs ds → vs[i]? = some (k, v) → ∃ b d, ds[i]? = some (b, d) ∧ k = kK b ∧ Dt H v d
  | _, _, _, _, _, .nil, h => by simp at h
  | _, _, 0, k, v, .cons (k := b) (d := d) a _, h => by
    simp at h
    exact ⟨b, d, by simp, h.1.symm, h.2 ▸ a⟩
  | _, _, i + 1, k, v, .cons _ b, h => by
    obtain ⟨b', d, h1, h2, h3⟩ := DtKs.at (i := i) b (by simpa using h)
    exact ⟨b', d, by simpa using h1, h2, h3⟩
theorem DtKs.len {H : Hp} : ∀ {vs : List (List Key × V)} {ds : List (List Nat × D)}, DtKs H vs ds → vs.length = ds.length
  | _, _, .nil => rfl
  | _, _, .cons _ b => congrArg (· + 1) (DtKs.len b)
/-- the keys of the dict that is item 1 of the tuple in slot i -/
theorem l_keys {c : D} {ds : List (List Nat × D)} {v1 : V} (e : En r H σ G) (hv1 : σ[i]? = some (some v1)) (hd0 : Dt H0 v1 (.tup [c, .dct ds])) (k0 : Kp r H0 H) (Pv : Nat → L2.St → Hp → Prop)
    (h0 : ∀ HL, Kw r H HL → (∀ a, H0 a = none → HL a = H a) → En r HL σ G → Pv 0 σ HL)
    (hs : ∀ HB k b d v σ' H' (R : VK) (B : L2.St → Hp → Prop), Kw r H0 HB → (∀ a, H0 a = none → HB a = none) → Kp r HB H' → ds[k]? = some (b, d) → Dt H' v (loD b) → Pv k σ' H' → (∀ v H2 s, Kp r HB H2 → Sv r H2 v s → (∀ H3, Kp r H0 H3 → Sv r H3 v s → D'.rt v H3) → R v H2) → tb { nx := fun σ' H' => Kp r HB H' ∧ Pv (k + 1) σ' H', ct := fun σ' H' => Kp r HB H' ∧ Pv (k + 1) σ' H', rt := R, bk := B } (σ'.set j (some v)) H')
    (hd : ∀ σ' H' H'', Pv ds.length σ' H' → (∀ a, H0 a = none → H'' a = H' a) → Kw r H' H'' → Kp r H0 H'' → D'.nx σ' H'') :
    tLock (tFor (iKeys (tOp (rIxT K) (tVar i) (tC (.int 1)))) (gName j) tb) D' σ H ∨ tFor (iKeys (tOp (rIxT K) (tVar i) (tC (.int 1)))) (gName j) tb D' σ H := by
  cases hd0 with
  | tup ht hall =>
    rename_i t xs
    cases hall with
    | cons hc hr =>
      cases hr with
      | cons hdc hn =>
        cases hn
        rename_i vc vd
        cases hdc with
        | dct hrd hks =>
          rename_i d kvs
          have ht' := k0.tup _ _ ht
          have hlen := DtKs.len hks
          rcases hrd with hdT | ⟨o, hfz⟩
          · left
            have hdT' := k0.dx _ _ hdT
            refine ⟨d, .dT kvs, hdT', trivial, fun od => ?_⟩
            have nd : ∀ a, H0 a = none → a ≠ d := fun a z1 z2 => by
              rw [z2, hdT] at z1
              cases z1
            have wB : Kw r H0 (L2.upd H0 d (.frz od (.dT kvs))) := Kw.lock hdT
            have kL := k0.lock2 (o := od) hdT
            have hL : Kw r H (L2.upd H d (.frz od (.dT kvs))) := Kw.lock hdT'
            have tL := hL.tup _ _ ht'
            refine ⟨.ref t, hv1, ⟨t, [vc, .ref d], 1, .ref d, rfl, rfl, SqT.of tL, rfl, ?_⟩⟩
            refine ⟨d, od, rfl, .inr ⟨kvs, upd_same, ?_⟩⟩
            refine for_keysT (D := ⟨_, _, _, _⟩) (fun k σ' H' => Kp r (L2.upd H0 d (.frz od (.dT kvs))) H' ∧ Pv k σ' H') ⟨kL, h0 _ hL (fun a z => upd_ne (nd a z)) (e.monoW hL)⟩ (fun k σ' H' p => p.1.fz d od _ upd_same) (fun k key v q σ' H' hk hq p => ?_) (fun σ' H' p => ?_)
            · obtain ⟨b, dd, h1, h2, h3⟩ := DtKs.at hks hk
              refine hs _ k b dd (.ref q) σ' H' _ _ wB (fun a z => by rw [upd_ne (nd a z)]; exact z) p.1 h1 (keyLo h2 hq) p.2 fun v' H2 s k2 sv hh => ?_
              have f2 := k2.fz d od _ upd_same
              exact ⟨f2, hh _ (Kp.unlock2 hdT k2) (sv.monoW (Kw.unlock f2))⟩
            · rw [hlen] at p
              have f2 := p.1.fz d od _ upd_same
              exact ⟨f2, hd σ' H' _ p.2 (fun a z => upd_ne (nd a z)) (Kw.unlock f2) (Kp.unlock2 hdT p.1)⟩
          · right
            have wB : Kw r H0 H0 := (Kp.refl r H0).w
            refine ⟨.ref t, hv1, ⟨t, [vc, .ref d], 1, .ref d, rfl, rfl, SqT.of ht', rfl, ?_⟩⟩
            refine ⟨d, o, rfl, .inr ⟨kvs, k0.fz _ _ _ hfz, ?_⟩⟩
            refine for_keysT (fun k σ' H' => Kp r H0 H' ∧ Pv k σ' H') ⟨k0, h0 _ (Kp.refl r H).w (fun a _ => rfl) e⟩ (fun k σ' H' p => p.1.fz d o _ hfz) (fun k key v q σ' H' hk hq p => ?_) (fun σ' H' p => ?_)
            · obtain ⟨b, dd, h1, h2, h3⟩ := DtKs.at hks hk
              exact hs _ k b dd (.ref q) σ' H' _ _ wB (fun a z => z) p.1 h1 (keyLo h2 hq) p.2 fun v' H2 s k2 sv hh => hh H2 k2 sv
            · rw [hlen] at p
              exact hd σ' H' H' p.2 (fun a _ => rfl) (Kp.refl r H').w p.1
end
/-! an own dict -/
def tmD (t : Tm) : List (List Nat × D) := t.map fun p => (p.1, qD p.2)
def fmD (F : Fm) : D := .tup [loD F.1, .dct (tmD F.2)]
def Own (H : Hp) (p : Addr) (t : Tm) : Prop := ∃ xs, H p = some (.dT xs) ∧ DtKs H xs (tmD t)
theorem qD_nod (q : Qt) : (qD q).nod = true := rfl
theorem DtKs.monoT {H H' : Hp} (ht : ∀ a xs, H a = some (.tup xs) → H' a = some (.tup xs)) : ∀ {t : Tm} {xs : List (List Key × V)}, DtKs H xs (tmD t) → DtKs H' xs (tmD t)
  | [], _, .nil => .nil
  | _ :: _, _, .cons a b => .cons (a.monoT ht rfl) (DtKs.monoT ht b)
theorem Own.mono {r : Option Addr} {H H' : Hp} {p : Addr} {t : Tm} (o : Own H p t) (k : Kp r H H') : Own H' p t := by
  obtain ⟨xs, h1, h2⟩ := o
  exact ⟨xs, k.dx _ _ h1, DtKs.monoT k.tup h2⟩
theorem Own.same {r : Option Addr} {H H' : Hp} {p : Addr} {t : Tm} (o : Own H p t) (k : Kw r H H') (h : H' p = H p) : Own H' p t := by
  obtain ⟨xs, h1, h2⟩ := o
  exact ⟨xs, h.trans h1, DtKs.monoT k.tup h2⟩
theorem Own.dct {H : Hp} {p : Addr} {t : Tm} (o : Own H p t) : Dt H (.ref p) (.dct (tmD t)) := by
  obtain ⟨xs, h1, h2⟩ := o
  exact .dct (.inl h1) h2
theorem dlook_tm {t : Tm} {k : List Nat} : dlook (tmD t) k = (glook t k).map qD := by
  induction t with
  | nil => rfl
  | cons p t ih =>
    by_cases h : p.1 = k
    · rw [glook_pos h]
      unfold dlook tmD
      simp [h]
    · rw [glook_neg h, ← ih]
      unfold dlook tmD
      simp [h]
theorem tm_any {H : Hp} {k : List Nat} : ∀ {t : Tm} {xs : List (List Key × V)}, DtKs H xs (tmD t) → (xs.any fun kv => decide (kv.1 = kK k)) = t.any fun p => decide (p.1 = k)
  | [], _, .nil => rfl
  | p :: t, _, .cons a b => by
    rw [List.any_cons, List.any_cons, tm_any b]
    congr 1
    by_cases h : p.1 = k
    · rw [decide_eq_true h, decide_eq_true (by rw [h])]
    · rw [decide_eq_false h, decide_eq_false fun z => h (kK_inj z)]
theorem tm_map {H : Hp} {k : List Nat} {v : V} {q : Qt} (hv : Dt H v (qD q)) : ∀ {t : Tm} {xs : List (List Key × V)}, DtKs H xs (tmD t) → DtKs H (xs.map fun kv => if kv.1 = kK k then (kv.1, v) else kv) (tmD (t.map fun p => if p.1 = k then (p.1, q) else p))
  | [], _, .nil => .nil
  | p :: t, _, .cons (v := w) a b => by
    have ih := tm_map (k := k) hv b
    have e1 : tmD ((p :: t).map fun p => if p.1 = k then (p.1, q) else p) = (if p.1 = k then (p.1, qD q) else (p.1, qD p.2)) :: tmD (t.map fun p => if p.1 = k then (p.1, q) else p) := by
      unfold tmD
      rw [List.map_cons, List.map_cons]
      congr 1
      split <;> rfl
    rw [List.map_cons, e1]
    by_cases h : p.1 = k
    · rw [if_pos h, if_pos (by rw [h])]
      exact .cons hv ih
    · rw [if_neg h, if_neg fun z => h (kK_inj z)]
      exact .cons a ih
theorem tm_app {H : Hp} {k : List Nat} {v : V} {q : Qt} (hv : Dt H v (qD q)) : ∀ {t : Tm} {xs : List (List Key × V)}, DtKs H xs (tmD t) → DtKs H (xs ++ [(kK k, v)]) (tmD (t ++ [(k, q)]))
  | [], _, .nil => .cons hv .nil
  | _ :: _, _, .cons a b => .cons a (tm_app hv b)
theorem tm_put {H : Hp} {k : List Nat} {v : V} {q : Qt} (hv : Dt H v (qD q)) {t : Tm} {xs : List (List Key × V)} (h : DtKs H xs (tmD t)) : DtKs H (putK xs (kK k) v) (tmD (gput t k q)) := by
  unfold putK gput
  rw [tm_any h]
  split
  · exact tm_map hv h
  · exact tm_app hv h
theorem tm_drop {H : Hp} {k : List Nat} : ∀ {t : Tm} {xs : List (List Key × V)}, DtKs H xs (tmD t) → DtKs H (dropK xs (kK k)) (tmD (gdrop t k))
  | [], _, .nil => .nil
  | p :: t, _, .cons (v := w) (vs := vs) a b => by
    have ih := tm_drop (k := k) b
    unfold dropK gdrop at ih ⊢
    by_cases h : p.1 = k
    · rw [List.filter_cons_of_neg (by simp [h]), List.filter_cons_of_neg (by simp [h])]
      exact ih
    · have h2 : ¬ kK p.1 = kK k := fun z => h (kK_inj z)
      rw [List.filter_cons_of_pos (by simpa using h2), List.filter_cons_of_pos (by simpa using h)]
      exact .cons a ih
/-- what the slots may hold while an own dict grows -/
def okG (old : Nat → D → Prop) : Nat → List Sl → Prop
  | _, [] => True
  | i, .dat d :: G => (d.nod = true ∨ old i d) ∧ okG old (i + 1) G
  | _, .lst _ _ :: _ => False
  | _, .tl _ :: _ => False
  | i, _ :: G => okG old (i + 1) G
theorem EnS.updD {r : Option Addr} {H H' : Hp} {σ0 : L2.St} {old : Nat → D → Prop} (ht : ∀ a xs, H a = some (.tup xs) → H' a = some (.tup xs)) (hr : ∀ a, r = some a → Row H a → Row H' a) (ho : ∀ i d, old i d → ∃ v, σ0[i]? = some (some v) ∧ Dt H' v d) :
    ∀ {σ : L2.St} {G : List Sl} {i : Nat}, EnS r H σ G → okG old i G → (∀ k, σ0[i + k]? = σ[k]?) → EnS r H' σ G
  | _, _, _, .nil, _, _ => .nil
  | o :: σ, s :: G, i, .cons h b, hk, hs => by
    have hs' : ∀ k, σ0[i + 1 + k]? = σ[k]? := fun k => by
      have := hs (k + 1)
      rw [show i + (k + 1) = i + 1 + k by omega] at this
      simpa using this
    cases s with
    | any => exact .cons .any (EnS.updD ht hr ho b hk hs')
    | dat d =>
      obtain ⟨h1, h2⟩ := show (d.nod = true ∨ old i d) ∧ okG old (i + 1) G from hk
      refine .cons ?_ (EnS.updD ht hr ho b h2 hs')
      cases h with
      | of h =>
        rcases h1 with h1 | h1
        · exact .of (.dat (h.d.monoT ht h1))
        · obtain ⟨v, e1, e2⟩ := ho i d h1
          have := hs 0
          rw [Nat.add_zero, e1] at this
          simp at this
          subst this
          exact .of (.dat e2)
    | lst a ds => exact (show False from hk).elim
    | tl ss => exact (show False from hk).elim
    | row a =>
      refine .cons ?_ (EnS.updD ht hr ho b hk hs')
      cases h with
      | of h =>
        cases h with
        | row e h => exact .of (.row e (hr a e h))
    | ty n =>
      refine .cons ?_ (EnS.updD ht hr ho b hk hs')
      cases h with
      | of h =>
        cases h
        exact .of (.ty n)
    | adr a =>
      refine .cons ?_ (EnS.updD ht hr ho b hk hs')
      cases h with
      | of h =>
        cases h
        exact .of (.adr a)
def Old (H0 : Hp) (σ : L2.St) : Nat → D → Prop := fun i d => ∃ v, σ[i]? = some (some v) ∧ Dt H0 v d
theorem En.updD {r : Option Addr} {G : List Sl} {σ : L2.St} {H H0 : Hp} {p : Addr} {xs ys : List (List Key × V)} (e : En r H σ G) (hp : H p = some (.dT xs)) (k0 : Kp r H0 H) (h0 : H0 p = none) (ok : okG (Old H0 σ) 0 G) : En r (L2.upd H p (.dT ys)) σ G := by
  have kk : Kp r H0 (L2.upd H p (.dT ys)) := k0.mut h0
  have hr : ∀ a, r = some a → Row H a → Row (L2.upd H p (.dT ys)) a := fun a ea ⟨ns, z⟩ => ⟨ns, by rw [upd_ne (ne_of z hp (by intro z; cases z))]; exact z⟩
  refine ⟨EnS.updD (fun a zs z => by rw [upd_ne (ne_of z hp (by intro z; cases z))]; exact z) hr (fun i d ⟨v, h1, h2⟩ => ⟨v, h1, kk.dt h2⟩) e.sl ok fun k => by rw [Nat.zero_add], fun a ea => hr a ea (e.rk a ea)⟩
section
variable {r : Option Addr} {K : PySem.W.Frag} {G : List Sl} {σ : L2.St} {H H0 : Hp} {tv : TE} {D' : Ends} {i j : Nat}
/-- d[k] = v -/
theorem s_put {p : Addr} {t : Tm} {k : List Nat} {q : Qt} (e : En r H σ G) (hg : G[i]? = some (.adr p)) (hk : G[j]? = some (.dat (loD k))) (hv : Ed r tv G (qD q)) (o : Own H p t) (hl : t.length < 100000) (k0 : Kp r H0 H) (h0 : H0 p = none) (ok : okG (Old H0 σ) 0 G)
    (kk : ∀ H', En r H' σ G → Kp r H0 H' → Own H' p (gput t k q) → D'.nx σ H') : sDPut (tVar i) (tVar j) tv D' σ H :=
  hv σ H e _ fun v H1 s k1 sv ps => by
    subst ps
    have e1 := e.mono k1
    obtain ⟨v1, g1, g2⟩ := e1.get hg (by intro z; cases z)
    obtain ⟨v2, g3, g4⟩ := e1.get hk (by intro z; cases z)
    cases g2
    obtain ⟨xs, hp, hx⟩ := o.mono k1
    obtain ⟨b, rfl, hb⟩ := keyT g4.d
    have hlen := DtKs.len hx
    refine ⟨.ref p, g1, .ref b, g3, p, _, rfl, .inr ⟨xs, kK k, b, hp, rfl, hb, ?_, rfl⟩, ?_⟩
    · rw [hlen]
      unfold tmD
      rw [List.length_map]
      exact Nat.lt_of_lt_of_le hl (by decide)
    · refine kk _ (En.updD e1 hp (k0.trans k1) h0 ok) ((k0.trans k1).mut h0) ⟨_, upd_same, ?_⟩
      exact DtKs.monoT (fun a zs z => by rw [upd_ne (ne_of z hp (by intro z; cases z))]; exact z) (tm_put sv.d hx)
/-- d.get(k, x) of an own dict -/
theorem ed_oget {p : Addr} {t : Tm} {k : List Nat} {q : Qt} {tk tx : TE} (hg : G[i]? = some (.adr p)) (hk : Ed r tk G (loD k)) (hx : Ed r tx G (qD q)) (e : En r H σ G) (o : Own H p t) (Q : VK) (qq : ∀ v H2, Kp r H H2 → Dt H2 v (qD ((glook t k).getD q)) → Q v H2) : tDGet2 (tVar i) tk tx σ H Q := by
  obtain ⟨v1, g1, g2⟩ := e.get hg (by intro z; cases z)
  cases g2
  refine ⟨.ref p, g1, p, rfl, ?_, ?_⟩
  · obtain ⟨xs, hp, _⟩ := o
    exact .inr ⟨xs, .inl hp⟩
  refine hk σ H e _ fun v2 H2 s2 k2 sv2 ps2 => hx σ H2 (e.mono k2) _ fun v3 H3 s3 k3 sv3 ps3 => ?_
  subst ps2 ps3
  obtain ⟨b, rfl, hb⟩ := keyT (sv2.mono k3).d
  obtain ⟨xs, hp, hxs⟩ := (o.mono k2).mono k3
  have hl := hxs.look k
  rw [dlook_tm] at hl
  refine ⟨valV xs (kK k), .inr ⟨xs, kK k, b, .inl hp, rfl, hb, rfl⟩, ?_⟩
  cases hq : glook t k with
  | none =>
    rw [hq] at hl
    rw [show valV xs (kK k) = none from hl]
    refine qq _ H3 (k2.trans k3) ?_
    rw [hq]
    exact sv3.d
  | some d =>
    rw [hq] at hl
    obtain ⟨y, hy, hyd⟩ := hl
    rw [hy]
    refine qq _ H3 (k2.trans k3) ?_
    rw [hq]
    exact hyd
end
end Zk

-- part ZA2
namespace Zk
open PySem PySem.Spec PyProof.Rows L2 Zb Zr Zm RZ
local macro_rules | `(tactic| trivial) => `(tactic| first
  | with_reducible exact ed_int | with_reducible exact ed_str | with_reducible exact ed_bl | with_reducible exact ed_non | exact ed_var rfl
  | (with_reducible refine ed_neg ?_; trivial)
  | (with_reducible refine ed_i ?_ ?_ <;> trivial)
  | (with_reducible refine ed_c ?_ ?_ <;> trivial))
/-- what is drawn: a program, what it carries -/
def A_gen : CA := fun r ss P => ∃ (a : Addr) (n m : Nat), r = some a ∧ ss = [.row a, .dat (nD n), .dat (nD m)] ∧ 1 ≤ n ∧ n ≤ 8 ∧ 1 ≤ m ∧ m ≤ 40 ∧ P = fun s => ∃ ls s1 s2 s3, PrOk n ls ∧ s = .tl [.dat (lsD ls), s1, s2, s3] ∧ ∃ p q u, s1 = .lst p ((call n ls).1.map loD) ∧ s2 = .lst q ((call n ls).2.map oD) ∧ s3 = .lst u (blD (n + ls.length) (nzf n ls))
section
variable {r : Option Addr} {K : PySem.W.Frag} {G : List Sl} {σ : L2.St} {H : Hp} {t1 t2 t3 : TE} {u : TS} {D' : Ends} {i j l : Nat}
theorem q_tl3 {d : D} {P2 P3 : List D → Prop} (e : En r H σ G) (h1 : Ed r t1 G d) (h2 : El r t2 G P2) (h3 : El r t3 G P3) (k : ∀ p q ds es σ' H', H p = none → H q = none → p ≠ q → P2 ds → P3 es → En r H' σ' (((G.set i (.dat d)).set j (.lst p ds)).set l (.lst q es)) → Kp r H H' → u D' σ' H') :
    tSeq (tAsg (tTup (tCons t1 (tCons t2 (tCons t3 tNil)))) (gTup K 3 (gCons (gName i) (gCons (gName j) (gCons (gName l) gNil))))) u D' σ H :=
  h1 σ H e _ fun v H2 s k2 sv ps => h2 σ H2 (e.mono k2) _ fun p H3 ds hp np k3 hl pd => h3 σ H3 ((e.mono k2).mono k3) _ fun q H4 es hq nq k4 hl2 pe => by
    subst ps
    refine ⟨by show 3 ≤ sizeLine; decide, fun T hT => ?_⟩
    have kn : Kp r H4 (L2.upd H4 T (.tup [v, .ref p, .ref q])) := Kp.new hT
    have kk := ((k2.trans k3).trans k4).trans kn
    refine ⟨T, _, rfl, SqT.of upd_same, rfl, _, _, rfl, _, _, rfl, _, _, rfl, rfl, ?_⟩
    exact k p q ds es _ _ (k2.fresh hp) ((k2.trans k3).fresh hq) (ls_ne hl hq) pd pe ((((e.mono kk).set i (sv.mono ((k3.trans k4).trans kn))).set j (.lst np ((k4.trans kn).ls np hl))).set l (.lst nq (kn.ls nq hl2))) kk
theorem q_tl2 {d : D} {P2 : List D → Prop} (e : En r H σ G) (h1 : Ed r t1 G d) (h2 : El r t2 G P2) (k : ∀ p ds σ' H', H p = none → P2 ds → En r H' σ' ((G.set i (.dat d)).set j (.lst p ds)) → Kp r H H' → u D' σ' H') :
    tSeq (tAsg (tTup (tCons t1 (tCons t2 tNil))) (gTup K 2 (gCons (gName i) (gCons (gName j) gNil)))) u D' σ H :=
  h1 σ H e _ fun v H2 s k2 sv ps => h2 σ H2 (e.mono k2) _ fun p H3 ds hp np k3 hl pd => by
    subst ps
    refine ⟨by show 2 ≤ sizeLine; decide, fun T hT => ?_⟩
    have kn : Kp r H3 (L2.upd H3 T (.tup [v, .ref p])) := Kp.new hT
    have kk := (k2.trans k3).trans kn
    refine ⟨T, _, rfl, SqT.of upd_same, rfl, _, _, rfl, _, _, rfl, rfl, ?_⟩
    exact k p ds _ _ (k2.fresh hp) pd (((e.mono kk).set i (sv.mono (k3.trans kn))).set j (.lst np (kn.ls np hl))) kk
theorem ev_tlP {t : TA} {PP : List Sl → Prop} (h : Ea r t G PP) (hl : ∀ ss, PP ss → ss.length ≤ 1000) : Ev r (tTup t) G (fun s => ∃ ss, s = .tl ss ∧ PP ss) := fun σ H e Q q =>
  h σ H e _ fun vs H2 ss k2 sv pv => by
    refine ⟨Nat.le_of_lt (small1000 (by rw [sv.length]; exact hl ss pv)), fun p hp => ?_⟩
    have kn : Kp r H2 (L2.upd H2 p (.tup vs)) := Kp.new hp
    exact q _ _ _ (k2.trans kn) (.tl upd_same (sv.mono kn)) ⟨ss, rfl, pv⟩
theorem nz_list {n : Nat} {ls : List Ln} {m : Nat} (hm : (call n ls).2.length = m) : (call n ls).2.map (fun o => D.bl (isZ o)) = blD m (nzf n ls) := by
  rw [map_at (fun o => D.bl (isZ o)) none, hm]
  rfl
theorem En.ne {a p : Addr} {ds : List D} (e : En r H σ G) (hg : G[i]? = some (.lst a ds)) (hp : H p = none) : a ≠ p := by
  obtain ⟨v, _, h⟩ := e.get hg (by intro z; cases z)
  cases h with
  | lst _ hls => exact ls_ne hls hp
end
section
variable {P : Program} {w : World} {K : PySem.W.Frag} {mg : Str → Option Value} {base : Heap} (T : Txt K mg)
include T
theorem ok_law_long (c_law_line : Cl P w K mg base 3 "_law_line" (Con 3 A_line)) (c_law_plainer : Cl P w K mg base 2 "_law_plainer" (Con 3 A_plainer)) (c_law_step : Cl P w K mg base 3 "_law_step" (Con 4 A_step)) : Cl P w K mg base 4 "_law_long" (Con 3 A_gen) := by
  refine mkCl T.d_law_long sc_law_long (fun _ _ _ _ _ _ us hl => match us, hl with | [_, _, _], _ => rfl) Con.len (fun f cdv A outer s H vs Q E hr h => ?_)
  obtain ⟨r, ss, PP, hl, ⟨a, n, m, rfl, rfl, n1, n8, m1, m40, rfl⟩, hv, rk, hq⟩ := h
  have en := En.start (N := ["_law_row_here", "_law_size", "_law_many", "_law_lines", "_law_lots", "_law_numbers", "_law_bits", "_law_k", "_law_line_here", "_law_step_here", "_law_which", "_law_number_here", "_law_place_here"]) hv rk
  refine ⟨_, (pss_cons (ps_asg (pe_tup (pa_cons (pe_tup pa_nil) (pa_cons (pe_lc (own := [("_law_which", 10)]) (g := gName 10) rfl sc_law_long.nd (pi_range1 rfl T.b_range (pa_cons (pv 1) pa_nil)) (blkOk_by (own := [("_law_which", 10)]) (N := ["_law_row_here", "_law_size", "_law_many", "_law_lines", "_law_lots", "_law_numbers", "_law_bits", "_law_k", "_law_line_here", "_law_step_here", "_law_which", "_law_number_here", "_law_place_here"]) (sc := defScope s_law_long) (by decide +kernel)) (fun _ _ _ _ _ => pg_name (i := 10) sc_law_long.nd rfl (Or.inl rfl)) (fun _ _ _ _ _ => pts_nil) (fun _ _ _ _ _ => (pe_tup (pa_cons (pv 10) pa_nil)))) (pa_cons (pe_lc (own := [("_law_which", 10)]) (g := gName 10) rfl sc_law_long.nd (pi_range1 rfl T.b_range (pa_cons (pv 1) pa_nil)) (blkOk_by (own := [("_law_which", 10)]) (N := ["_law_row_here", "_law_size", "_law_many", "_law_lines", "_law_lots", "_law_numbers", "_law_bits", "_law_k", "_law_line_here", "_law_step_here", "_law_which", "_law_number_here", "_law_place_here"]) (sc := defScope s_law_long) (by decide +kernel)) (fun _ _ _ _ _ => pg_name (i := 10) sc_law_long.nd rfl (Or.inl rfl)) (fun _ _ _ _ _ => pts_nil) (fun _ _ _ _ _ => pe_non)) pa_nil)))) (pg_tup (n := 3) rfl (pgs_cons (pg_name (i := 3) sc_law_long.nd rfl (Or.inl rfl)) (pgs_cons (pg_name (i := 4) sc_law_long.nd rfl (Or.inl rfl)) (pgs_cons (pg_name (i := 5) sc_law_long.nd rfl (Or.inr rfl)) pgs_nil))))) (pss_cons (ps_setLc (i := 6) (own := [("_law_which", 10)]) (g := gName 10) rfl sc_law_long.nd rfl rfl (sw_true rfl rfl rfl (by decide +kernel)) (pi_range1 rfl T.b_range (pa_cons (pv 1) pa_nil)) (blkOk_by (own := [("_law_which", 10)]) (N := ["_law_row_here", "_law_size", "_law_many", "_law_lines", "_law_lots", "_law_numbers", "_law_bits", "_law_k", "_law_line_here", "_law_step_here", "_law_which", "_law_number_here", "_law_place_here"]) (sc := defScope s_law_long) (by decide +kernel)) (fun _ _ _ _ _ => pg_name (i := 10) sc_law_long.nd rfl (Or.inl rfl)) (fun _ _ _ _ _ => pts_nil) (fun _ _ _ _ _ => (pe_tup (pa_cons pe_int (pa_cons pe_int pa_nil))))) (pss_cons (ps_for PassesOwn.never rfl (pi_range1 rfl T.b_range (pa_cons (pv 2) pa_nil)) (pg_name (i := 7) sc_law_long.nd rfl (Or.inl rfl)) (pss_cons (ps_set (i := 8) sc_law_long.nd rfl (Or.inl rfl) (pe_cl c_law_line hr (by decide) rfl (pa_cons (pv 0) (pa_cons (pe_op op_add (pv 1) (pv 7)) (pa_cons (pe_lc (own := [("_law_place_here", 12)]) (g := gName 12) rfl sc_law_long.nd (pi_range2 rfl T.b_range (pa_cons (pv 1) (pa_cons (pe_op op_add (pv 1) (pv 7)) pa_nil))) (blkOk_by (own := [("_law_place_here", 12)]) (N := ["_law_row_here", "_law_size", "_law_many", "_law_lines", "_law_lots", "_law_numbers", "_law_bits", "_law_k", "_law_line_here", "_law_step_here", "_law_which", "_law_number_here", "_law_place_here"]) (sc := defScope s_law_long) (by decide +kernel)) (fun _ _ _ _ _ => pg_name (i := 12) sc_law_long.nd rfl (Or.inl rfl)) (fun _ _ _ _ _ => (pts_one (pt_cmpR (r := rEqD K) (op_eqD hr.units) (pe_ix (r := rIxL K) ix_list (pv 5) (pv 12) (fun _ _ => rfl)) (pe_tup (pa_cons pe_int (pa_cons pe_int pa_nil))) (nomark _)))) (fun _ _ _ _ _ => (pv 12))) pa_nil))))) (pss_cons (ps_set (i := 9) sc_law_long.nd rfl (Or.inl rfl) (pe_cl c_law_step hr (by decide) rfl (pa_cons (pv 8) (pa_cons (pv 4) (pa_cons (pv 5) (pa_cons (pv 6) pa_nil)))))) (pss_cons (ps_if (PW.pt (pw_or (pt_cmpR op_gt (pe_ix (r := rIxT K) ix_tup (pe_ix (r := rIxT K) ix_tup (pv 9) pe_int (fun _ _ => rfl)) pe_int (fun _ _ => rfl)) pe_int (nomark _)) (pw_or1 (pt_cmpR op_gt (pe_ix (r := rIxT K) ix_tup (pe_ix (r := rIxT K) ix_tup (pv 9) pe_int (fun _ _ => rfl)) pe_int (fun _ _ => rfl)) pe_int (nomark _))))) (pss_cons (ps_set (i := 8) sc_law_long.nd rfl (Or.inl rfl) (pe_cl c_law_plainer hr (by decide) rfl (pa_cons (pv 0) (pa_cons (pv 1) (pa_cons (pe_op op_sub (pe_op op_add (pv 1) (pv 7)) pe_int) pa_nil))))) (pss_one (ps_set (i := 9) sc_law_long.nd rfl (Or.inl rfl) (pe_cl c_law_step hr (by decide) rfl (pa_cons (pv 8) (pa_cons (pv 4) (pa_cons (pv 5) (pa_cons (pv 6) pa_nil)))))))) pss_nil) (pss_cons (ps_if (PW.pt (pw_or (pt_cmpR op_gt (pe_ix (r := rIxT K) ix_tup (pe_ix (r := rIxT K) ix_tup (pv 9) pe_int (fun _ _ => rfl)) pe_int (fun _ _ => rfl)) pe_int (nomark _)) (pw_or1 (pt_cmpR op_gt (pe_ix (r := rIxT K) ix_tup (pe_ix (r := rIxT K) ix_tup (pv 9) pe_int (fun _ _ => rfl)) pe_int (fun _ _ => rfl)) pe_int (nomark _))))) (pss_cons (ps_set (i := 8) sc_law_long.nd rfl (Or.inl rfl) (pe_cl c_law_plainer hr (by decide) rfl (pa_cons (pv 0) (pa_cons (pv 1) (pa_cons pe_int pa_nil))))) (pss_one (ps_set (i := 9) sc_law_long.nd rfl (Or.inl rfl) (pe_cl c_law_step hr (by decide) rfl (pa_cons (pv 8) (pa_cons (pv 4) (pa_cons (pv 5) (pa_cons (pv 6) pa_nil)))))))) pss_nil) (pss_cons (ps_expr (pe_bm PySem.F.plainAttrs_list PySem.F.slot_list_append PySem.F.type_list_append mt_append (pv 4) (pa_cons (pe_ix (r := rIxT K) ix_tup (pv 9) pe_int (fun _ _ => rfl)) pa_nil))) (pss_cons (ps_expr (pe_bm PySem.F.plainAttrs_list PySem.F.slot_list_append PySem.F.type_list_append mt_append (pv 5) (pa_cons (pe_ix (r := rIxT K) ix_tup (pv 9) pe_int (fun _ _ => rfl)) pa_nil))) (pss_cons (ps_expr (pe_bm PySem.F.plainAttrs_list PySem.F.slot_list_append PySem.F.type_list_append mt_append (pv 6) (pa_cons (pe_ix (r := rIxT K) ix_tup (pv 9) pe_int (fun _ _ => rfl)) pa_nil))) (pss_one (ps_set (i := 3) sc_law_long.nd rfl (Or.inl rfl) (pe_op op_catA (pv 3) (pe_tup (pa_cons (pv 8) pa_nil))))))))))))) (pss_one (ps_ret (pe_tup (pa_cons (pv 3) (pa_cons (pv 4) (pa_cons (pv 5) (pa_cons (pe_lc (own := [("_law_number_here", 11)]) (g := gName 11) rfl sc_law_long.nd (pi_list (pv 5)) (blkOk_by (own := [("_law_number_here", 11)]) (N := ["_law_row_here", "_law_size", "_law_many", "_law_lines", "_law_lots", "_law_numbers", "_law_bits", "_law_k", "_law_line_here", "_law_step_here", "_law_which", "_law_number_here", "_law_place_here"]) (sc := defScope s_law_long) (by decide +kernel)) (fun _ _ _ _ _ => pg_name (i := 11) sc_law_long.nd rfl (Or.inl rfl)) (fun _ _ _ _ _ => pts_nil) (fun _ _ _ _ _ => (pe_cmpR (r := rEqD K) (op_eqD hr.units) (pv 11) (pe_tup (pa_cons pe_int (pa_cons pe_int pa_nil))) (nomark _)))) pa_nil)))))))))), ?_⟩
  refine q_tl3 en ed_t0 (el_rng1 (n := n) (f := fun _ => true) (v := fun k => D.tup [nD k]) (ea_c (ed_var rfl) ea_nil) (by omega) (fun i _ => eb_yes) fun i _ _ => ed_tup (ds := [nD i]) (ea_cd (ed_var rfl) ea_n)) (el_rng1 (n := n) (f := fun _ => true) (v := fun k => D.non) (ea_c (ed_var rfl) ea_nil) (by omega) (fun i _ => eb_yes) fun i _ _ => ed_non) fun p q ds es σ1 H1 hp hqn pq e1 e2 en k1 => ?_
  have d1 : ds = (call n []).1.map loD := by
    rw [e1, compL_all]
    show _ = ((List.range n).map fun k => [k]).map loD
    rw [List.map_map]
    rfl
  have d2 : es = (call n []).2.map oD := by
    rw [e2, compL_all]
    show _ = (List.replicate n none).map oD
    rw [List.map_replicate, map_const (c := D.non) fun _ _ => rfl, List.length_range]
    rfl
  subst d1 d2
  refine q_setL en (el_rng1 (n := n) (f := fun _ => true) (v := fun k => bD (3, 0)) (ea_c (ed_var rfl) ea_nil) (by omega) (fun i _ => eb_yes) fun i _ _ => ed_tup (ds := [.int 3, .int 0]) (ea_cd ed_int (ea_cd ed_int ea_n))) fun u ds σ2 H2 hu np pd en k2 => ?_
  have pu : p ≠ u := (En.ne (i := 4) ‹En _ H1 _ _› rfl hu)
  have qu : q ≠ u := (En.ne (i := 5) ‹En _ H1 _ _› rfl hu)
  have d3 : ds = (List.replicate n ((3, 0) : Nat × Nat)).map bD := by
    rw [pd, compL_all, map_const (c := bD (3, 0)) fun _ _ => rfl, List.length_range, List.map_replicate]
  subst d3
  replace hu := k1.fresh hu
  replace k2 := k1.trans k2
  refine q_seq (l_rng1 (n := m) en (ea_c (ed_var rfl) ea_nil) (by omega) (fun k σ' H' => ∃ ls bs, ls.length = k ∧ Rn n ls ∧ BV n ls bs ∧ En (some a) H' σ' [.row a, .dat (nD n), .dat (nD m), .dat (lsD ls), .lst p ((call n ls).1.map loD), .lst q ((call n ls).2.map oD), .lst u (bs.map bD), .any, .any, .any, .any, .any, .any] ∧ Kp (some a) H H') (fun H' en k => ⟨[], _, rfl, .nil, bv0 n, en, k2.trans k⟩) (fun k σ' H' hk ⟨ls, bs, hlen, hrn, hbv, en, kp⟩ => ?_) fun σ' H' ⟨ls, bs, hlen, hrn, hbv, en, kp⟩ => ?_)
  · have en := en.set 7 (v := .int (k : Nat)) (s := .dat (nD k)) (.dat (.int _))
    have hc := ci hrn n8
    have hvb := hbv.vb hrn
    rw [hlen] at hc
    have ek : ∀ {r : Option Addr} {G : List Sl}, G[1]? = some (.dat (nD n)) → G[7]? = some (.dat (nD k)) → Ed r (tOp (rI0 fun i j => .int (i + j)) (tVar 1) (tVar 7)) G (nD (n + k)) := fun h1 h2 => ed_i (f := fun i j => i + j) (ed_var h1) (ed_var h2)
    have cstep : ∀ {G : List Sl} {E : XK} {l : Ln}, LnOk (n + k) l → G[8]? = some (.dat (lD l)) → G[4]? = some (.lst p ((call n ls).1.map loD)) → G[5]? = some (.lst q ((call n ls).2.map oD)) → G[6]? = some (.lst u (bs.map bD)) → Ed (some a) (tCall (Con 4 A_step) [] E (tCons (tVar 8) (tCons (tVar 4) (tCons (tVar 5) (tCons (tVar 6) tNil))))) G (.tup [loD (cst (call n ls) l).1, oD (cst (call n ls) l).2, bD (bst bs l)]) := fun hl h1 h2 h3 h4 =>
      ev_call' (ea_c (ed_var h1) (ea_c (ev_var h2) (ea_c (ev_var h3) (ea_c (ev_var h4) ea_nil)))) ⟨_, p, q, u, _, n, n + k, bs, rfl, hc, n8, by rw [hbv.len, hlen], hl, fun b x hb e => num_qb n8 hrn hvb (by rw [hlen]; exact hb) e, rfl⟩
    refine q_setP en (ev_callI (P := fun s => ∃ l, LnOk (n + k) l ∧ s = .dat (lD l)) (PP := fun ss => ∃ v, ss = [.row a, .dat (nD (n + k)), .lst v (((List.range' n k).filter fun i => isZ ((call n ls).at i).2).map nD)]) ((ea_cons (ev_row rfl) (ea_cons (P := fun s => s = .dat (nD (n + k))) (ek rfl rfl) (ea_cons (ev_of (el_rng2 (lo := n) (n := k) (f := fun i => isZ ((call n ls).at i).2) (v := nD) (ea_c (ed_var rfl) (ea_c (ek rfl rfl) ea_nil)) (by omega) (fun i hi => eb_test (ed_eqQ (ed_ixL (ev_var rfl) (ed_var rfl) (get_map (by rw [hc.l2]; omega))) ed_q01)) fun i _ _ => ed_var rfl)) ea_nil))).imp ?_) ?_) fun s3 σ3 H3 p3 en k3 => ?_
    · rintro ss ⟨s1, s2, rfl, rfl, s3, s4, rfl, rfl, s5, s6, rfl, ⟨v, ds, rfl, rfl⟩, rfl⟩
      exact ⟨v, rfl⟩
    · rintro ss ⟨v, rfl⟩
      refine ⟨rfl, _, ⟨a, v, n + k, _, rfl, rfl, by omega, fun i hi => ?_, rfl⟩, fun s h => h⟩
      have := List.mem_range'_1.mp (List.mem_filter.mp hi).1
      omega
    obtain ⟨l0, hl0, rfl⟩ := p3
    refine q_set en (cstep hl0 rfl rfl rfl rfl) fun σ4 H4 en k4 => ?_
    replace k4 := (kp.trans k3).trans k4
    have bits : ∀ {G : List Sl} {l : Ln}, G[9]? = some (.dat (.tup [loD (cst (call n ls) l).1, oD (cst (call n ls) l).2, bD (bst bs l)])) → Eb (some a) (tOr (tTest (tOp (rI0 fun i j => .bl (decide (i > j))) (tOp (rIxT K) (tOp (rIxT K) (tVar 9) (tC (.int 2))) (tC (.int 0))) (tC (.int 1200)))) (tTest (tOp (rI0 fun i j => .bl (decide (i > j))) (tOp (rIxT K) (tOp (rIxT K) (tVar 9) (tC (.int 2))) (tC (.int 1))) (tC (.int 600))))) G (decide (((bst bs l).1 : Int) > 1200) || decide (((bst bs l).2 : Int) > 600)) := fun h =>
      eb_or (eb_test (ed_c (f := fun i j => decide (i > j)) (ed_ix0 (d := nD (bst bs _).1) (ds := [nD (bst bs _).2]) (ed_ix2 (ds := []) (ed_var h))) ed_int)) fun _ => eb_test (ed_c (f := fun i j => decide (i > j)) (ed_ix1 (c := nD (bst bs _).1) (d := nD (bst bs _).2) (ds := []) (ed_ix2 (ds := []) (ed_var h))) ed_int)
    have cplain : ∀ {G : List Sl} {E : XK} {t1 t2 t3 : TE} {b : Nat}, Ev (some a) t1 G (fun s => s = .row a) → Ed (some a) t2 G (nD n) → Ed (some a) t3 G (nD b) → Ev (some a) (tCall (Con 3 A_plainer) [] E (tCons t1 (tCons t2 (tCons t3 tNil)))) G (fun s => ∃ w j, j < n ∧ s = .dat (lD (.op w b j))) := fun h1 h2 h3 => ev_call' (ea_c h1 (ea_c h2 (ea_c h3 ea_nil))) ⟨a, n, _, rfl, rfl, by omega, rfl⟩
    refine q_ifJ (fun σ' H' => ∃ l, LnOk (n + k) l ∧ En (some a) H' σ' [.row a, .dat (nD n), .dat (nD m), .dat (lsD ls), .lst p ((call n ls).1.map loD), .lst q ((call n ls).2.map oD), .lst u (bs.map bD), .dat (nD k), .dat (lD l), .dat (.tup [loD (cst (call n ls) l).1, oD (cst (call n ls) l).2, bD (bst bs l)]), .any, .any, .any] ∧ Kp (some a) H H') en (bits rfl) (fun nx hnx _ H5 en k5 => ?_) (fun _ H5 en k5 => ⟨l0, hl0, en, k4.trans k5⟩) fun σ5 H5 h5 => ?_
    · refine q_setP en (cplain (b := n + k - 1) (ev_row rfl) (ed_var rfl) (Ed.is (ed_i (f := fun i j => i - j) (ek rfl rfl) ed_int) ?_)) fun s6 σ6 H6 p6 en k6 => ?_
      · unfold nD
        congr 1
        omega
      obtain ⟨w', j, hj, rfl⟩ := p6
      have hl1 : LnOk (n + k) (.op w' (n + k - 1) j) := ⟨by omega, by omega⟩
      exact s_set en (cstep hl1 rfl rfl rfl rfl) fun σ7 H7 en k7 => hnx _ _ ⟨_, hl1, en, ((k4.trans k5).trans k6).trans k7⟩
    obtain ⟨l1, hl1, en, k5⟩ := h5
    refine q_ifJ (fun σ' H' => ∃ l, LnOk (n + k) l ∧ (bst bs l).1 ≤ 1200 ∧ (bst bs l).2 ≤ 600 ∧ En (some a) H' σ' [.row a, .dat (nD n), .dat (nD m), .dat (lsD ls), .lst p ((call n ls).1.map loD), .lst q ((call n ls).2.map oD), .lst u (bs.map bD), .dat (nD k), .dat (lD l), .dat (.tup [loD (cst (call n ls) l).1, oD (cst (call n ls) l).2, bD (bst bs l)]), .any, .any, .any] ∧ Kp (some a) H H') en (bits rfl) (fun nx hnx _ H6 en k6 => ?_) (fun hb H6 en k6 => ⟨l1, hl1, ?_, ?_, en, k5.trans k6⟩) fun σ6 H6 h6 => ?_
    · refine q_setP en (cplain (b := 0) (ev_row rfl) (ed_var rfl) ed_int) fun s7 σ7 H7 p7 en k7 => ?_
      obtain ⟨w', j, hj, rfl⟩ := p7
      have hl2 : LnOk (n + k) (.op w' 0 j) := ⟨by omega, by omega⟩
      have hb2 : bst bs (.op w' 0 j) = bop w' (3, 0) (3, 0) := by
        show bop w' (bs.getD 0 (0, 0)) (bs.getD j (0, 0)) = _
        rw [hbv.ins 0 (by omega), hbv.ins j hj]
      exact s_set en (cstep hl2 rfl rfl rfl rfl) fun σ8 H8 en k8 => hnx _ _ ⟨_, hl2, by rw [hb2]; cases w' <;> decide, by rw [hb2]; cases w' <;> decide, en, ((k5.trans k6).trans k7).trans k8⟩
    · rw [Bool.or_eq_false_iff] at hb
      have := of_decide_eq_false hb.1
      omega
    · rw [Bool.or_eq_false_iff] at hb
      have := of_decide_eq_false hb.2
      omega
    obtain ⟨l, hlk, c1, c2, en, k6⟩ := h6
    have z1 : ((call n ls).1.map loD).length < 100000 := by rw [List.length_map, hc.l1]; omega
    have z2 : ((call n ls).2.map oD).length < 100000 := by rw [List.length_map, hc.l2]; omega
    have z3 : (bs.map bD).length < 100000 := by rw [List.length_map, hbv.len]; omega
    refine q_app en rfl (d := loD (cst (call n ls) l).1) (ed_ix0 (ed_var rfl)) z1 (by simp [noAl, pq.symm, pu.symm]) k6 hp fun H7 en k7 _ => ?_
    refine q_app en rfl (d := oD (cst (call n ls) l).2) (ed_ix1 (ed_var rfl)) z2 (by simp [noAl, pq, qu.symm]) k7 hqn fun H8 en k8 _ => ?_
    refine q_app en rfl (d := bD (bst bs l)) (ed_ix2 (ds := []) (ed_var rfl)) z3 (by simp [noAl, pu, qu]) k8 hu fun H9 en k9 _ => ?_
    refine s_set en (ed_catA (ds := ls.map lD) (es := [lD l]) (ed_var rfl) (ed_tup (ea_cd (ed_var rfl) ea_n)) (by rw [List.length_map, List.length_singleton]; omega)) fun σ10 H10 en k10 => ?_
    refine ⟨ls ++ [l], bs ++ [bst bs l], by rw [List.length_append, hlen]; rfl, .snoc hrn (by rw [hlen]; exact hlk), hbv.step hrn (by rw [hlen]; exact hlk) c1 c2, ?_, k9.trans k10⟩
    have e1 : (call n (ls ++ [l])).1.map loD = (call n ls).1.map loD ++ [loD (cst (call n ls) l).1] := by
      rw [call_snoc]
      show ((call n ls).1 ++ [(cst (call n ls) l).1]).map loD = _
      rw [List.map_append]
      rfl
    have e2 : (call n (ls ++ [l])).2.map oD = (call n ls).2.map oD ++ [oD (cst (call n ls) l).2] := by
      rw [call_snoc]
      show ((call n ls).2 ++ [(cst (call n ls) l).2]).map oD = _
      rw [List.map_append]
      rfl
    have e3 : (bs ++ [bst bs l]).map bD = bs.map bD ++ [bD (bst bs l)] := by rw [List.map_append]; rfl
    have e4 : lsD (ls ++ [l]) = .tup (ls.map lD ++ [lD l]) := by
      unfold lsD
      rw [List.map_append]
      rfl
    rw [e1, e2, e3, e4]
    exact En.drops [7, 8, 9] en
  · have hc := ci hrn n8
    refine s_ret (D' := { nx := _, rt := Q }) en (ev_tlP (PP := fun ss => ∃ u, ss = [.dat (lsD ls), .lst p ((call n ls).1.map loD), .lst q ((call n ls).2.map oD), .lst u (blD (n + ls.length) (nzf n ls))]) ((ea_cons (P := fun s => s = .dat (lsD ls)) (ed_var rfl) (ea_cons (P := fun s => s = .lst p ((call n ls).1.map loD)) (ev_var rfl) (ea_cons (P := fun s => s = .lst q ((call n ls).2.map oD)) (ev_var rfl) (ea_cons (ev_of (el_lstC (ds := (call n ls).2.map oD) (v := fun d => .bl (PyData.eqv d.pd (qD (0, 1)).pd)) (ev_var rfl) (by rw [List.length_map, hc.l2]; omega) fun i d hd => ?_)) ea_nil)))).imp ?_) ?_) fun v H' s k sv e => hq v H' s (kp.trans k) sv ?_
    · obtain ⟨o, _, rfl⟩ := getE_map hd
      exact (ed_eqQ (ed_var rfl) ed_q01).is (by rw [eqv_q])
    · rintro ss ⟨s1, s2, rfl, rfl, s3, s4, rfl, rfl, s5, s6, rfl, rfl, s7, s8, rfl, ⟨v, ds, rfl, rfl⟩, rfl⟩
      refine ⟨v, ?_⟩
      rw [List.map_map, ← nz_list hc.l2]
      congr 5
      refine List.map_congr_left fun o _ => ?_
      show D.bl (PyData.eqv (oD o).pd (qD (0, 1)).pd) = _
      rw [eqv_q]
    · rintro ss ⟨v, rfl⟩
      exact Nat.le_of_ble_eq_true rfl
    · obtain ⟨ss, rfl, v, rfl⟩ := e
      exact ⟨ls, _, _, _, ⟨n1, n8, by omega, by omega, hrn, hbv.vb hrn⟩, rfl, p, q, v, rfl, rfl, rfl⟩
end
end Zk

-- part ZA3
namespace Zk
open PySem PySem.Spec PyProof.Rows L2 Zb Zr Zm RZ
local macro_rules | `(tactic| trivial) => `(tactic| first
  | with_reducible exact ed_int | with_reducible exact ed_str | with_reducible exact ed_bl | with_reducible exact ed_non | exact ed_var rfl
  | (with_reducible refine ed_neg ?_; trivial)
  | (with_reducible refine ed_i ?_ ?_ <;> trivial)
  | (with_reducible refine ed_c ?_ ?_ <;> trivial))
def A_counts : CA := fun _ ss P => ∃ n ls u, ss = [.dat (nD n), .dat (lsD ls), .lst u (blD (n + ls.length) (nzf n ls))] ∧ PrOk n ls ∧ P = fun s => s = .dat (cntD n ls)
section
variable {r : Option Addr} {K : PySem.W.Frag} {G : List Sl} {σ : L2.St} {H : Hp} {te ti : TE} {tb : TS} {D' : Ends} {i j : Nat}
theorem set_self {v : V} : ∀ {σ : L2.St} {i : Nat}, σ[i]? = some (some v) → σ.set i (some v) = σ
  | [], _, h => by simp at h
  | x :: σ, 0, h => by
    simp at h
    rw [h]
    rfl
  | x :: σ, i + 1, h => by
    show x :: σ.set i (some v) = x :: σ
    rw [set_self (σ := σ) (i := i) (by simpa using h)]
theorem Ls.updNe {p A : Addr} {ds : List D} {xs : List V} {o : HO} (h : Ls H p ds) (n : p ≠ A) (hA : H A = some (.lst xs)) : Ls (L2.upd H A o) p ds := by
  obtain ⟨ys, h1, h2⟩ := h
  exact ⟨ys, by rw [upd_ne n]; exact h1, (Kx.mut hA).dts h2⟩
/-- an item of a list of lists -/
theorem pt_ixA {A p : Addr} {ps : List Addr} {k : Nat} {ds : List D} (e : En r H σ G) (hg : G[i]? = some (.adr A)) (na : some A ≠ r) (hA : H A = some (.lst (ps.map V.ref))) (hi : Ed r ti G (.int (k : Nat))) (hp : ps[k]? = some p) (np : some p ≠ r) (hl : Ls H p ds) (Q : VK) (q : ∀ H2, Kp r H H2 → Ls H2 p ds → Q (.ref p) H2) : tOp (rIxL K) (tVar i) ti σ H Q := by
  obtain ⟨v, h1, h2⟩ := e.get hg (by intro z; cases z)
  cases h2
  refine ⟨.ref A, h1, hi σ H e _ fun x H2 s k2 sx ps' => ?_⟩
  subst ps'
  cases sx.d
  have hA2 := k2.lst A _ na hA
  exact ⟨_, _, _, .ref p, rfl, rfl, SqL.of hA2, Zb.atI_nat (by rw [List.getElem?_map, hp]; rfl), q H2 k2 (k2.ls np hl)⟩
/-- as l_lst, where the reading is of one state -/
theorem l_lstH {a : Addr} {ds : List D} {g : TG} (na : some a ≠ r) (h : ∀ Q : VK, (∀ H2, Kp r H H2 → Ls H2 a ds → Q (.ref a) H2) → te σ H Q) (Pv : Hp → Nat → L2.St → Hp → Prop) (h0 : ∀ Hb, Kp r H Hb → Pv Hb 0 σ Hb) (hk : ∀ Hb i σ' H', Kp r H Hb → Pv Hb i σ' H' → Kx Hb H' ∧ ∀ xs, Hb a = some (.lst xs) → H' a = some (.lst xs))
    (hs : ∀ Hb i d v σ' H', Kp r H Hb → ds[i]? = some d → Dt H' v d → Pv Hb i σ' H' → g v σ' H' fun σ2 H2 => tb { D' with nx := Pv Hb (i + 1), ct := Pv Hb (i + 1), bk := D'.nx } σ2 H2)
    (hd : ∀ Hb σ' H', Kp r H Hb → Pv Hb ds.length σ' H' → D'.nx σ' H') : tFor (iList K te) g tb D' σ H :=
  h _ fun Hb k2 hls => by
    obtain ⟨xs, ha, hds⟩ := hls
    have hlen := hds.length
    refine ⟨a, rfl, ⟨xs, SqL.of ha⟩, for_list (Pv Hb) (h0 Hb k2) (fun i σ' H' _ p => SqL.of ((hk _ _ _ _ k2 p).2 xs ha)) (fun i x σ' H' hx p => ?_) (fun σ' H' p => hd Hb σ' H' k2 (hlen ▸ p))⟩
    obtain ⟨d, hd1, hd2⟩ := hds.getV hx
    exact hs Hb i d x σ' H' k2 hd1 ((hk _ _ _ _ k2 p).1.dt hd2) p
/-- a list of lists grows -/
theorem q_appA {A : Addr} {ps : List Addr} {P2 : List D → Prop} (e : En r H σ G) (hg : G[i]? = some (.adr A)) (na : some A ≠ r) (hA : H A = some (.lst (ps.map V.ref))) (h : El r te G P2) (hl : ps.length < 100000) (hal : noAl A G)
    (k : ∀ p ds H1 H', H p = none → some p ≠ r → P2 ds → Kp r H H1 → Ls H1 p ds → H1 A = some (.lst (ps.map V.ref)) → H' = L2.upd H1 A (.lst ((ps ++ [p]).map V.ref)) → En r H' σ G → D'.nx σ H') : tDrop (tBM K "list" rAppend (tVar i) (tCons te tNil)) D' σ H := by
  obtain ⟨v, h1, h2⟩ := e.get hg (by intro z; cases z)
  cases h2
  refine ⟨.ref A, h1, .inl ⟨rfl, _, SqL.of hA⟩, ?_⟩
  refine h σ H e _ fun p H1 ds hp np k1 hls pd => ?_
  have hA1 := k1.lst A _ na hA
  refine ⟨A, _, .ref p, rfl, rfl, hA1, by rw [List.length_map]; exact Nat.lt_of_lt_of_le hl (by decide), ?_⟩
  have e1 : (ps.map V.ref) ++ [V.ref p] = (ps ++ [p]).map V.ref := by rw [List.map_append]; rfl
  rw [e1]
  exact k p ds H1 _ hp np pd k1 hls hA1 rfl ((e.mono k1).updA hA1 na hal)
end
/-- what the law keeps of line k -/
theorem cnt_of {n : Nat} {nz : Nat → Bool} {ls : List Ln} (hr : Rn n ls) {k : Nat} {g : Nat → Bool} (hg : ∀ j, j < k + 1 → (g j = true ↔ Rch (Ed1 n nz ls) k j)) : (List.range (k + 1)).filter g = cnt n nz ls k := by
  unfold cnt
  apply List.filter_congr
  intro j hj
  rw [List.mem_range] at hj
  rw [Bool.eq_iff_iff, hg j hj, rB_iff]
theorem mem_cnt {n : Nat} {nz : Nat → Bool} {ls : List Ln} (hr : Rn n ls) {k j : Nat} : j ∈ cnt n nz ls k ↔ Rch (Ed1 n nz ls) k j := by
  unfold cnt
  rw [List.mem_filter, List.mem_range, rB_iff]
  constructor
  · exact fun h => h.2
  · intro h
    have := rch_le (fun k j e => ed1_lt hr e) h
    exact ⟨by omega, h⟩
section
variable {P : Program} {w : World} {K : PySem.W.Frag} {mg : Str → Option Value} {base : Heap} (T : Txt K mg)
include T
theorem ok_law_counting : Cl P w K mg base 1 "_law_counting" (Con 3 A_counts) := by
  refine mkCl T.d_law_counting sc_law_counting (fun _ _ _ _ _ _ us hl => match us, hl with | [_, _, _], _ => rfl) Con.len (fun f cdv A' outer s H vs Q E hr h => ?_)
  obtain ⟨r, ss, PP, hl, ⟨n, ls, u, rfl, hp, rfl⟩, hv, rk, hq⟩ := h
  have en := En.start (N := ["_law_size", "_law_lines", "_law_nought", "_law_counted", "_law_k", "_law_line_here", "_law_at", "_law_there", "_law_one", "_law_other"]) hv rk
  refine ⟨_, (pss_cons (ps_set (i := 3) sc_law_counting.nd rfl (Or.inl rfl) (pe_lst pa_nil)) (pss_cons (ps_for PassesOwn.never rfl (pi_enumT (by rfl) T.b_enumerate (pa_cons (pv 1) pa_nil)) (pg_tup (n := 2) rfl (pgs_cons (pg_name (i := 4) sc_law_counting.nd rfl (Or.inr rfl)) (pgs_cons (pg_name (i := 5) sc_law_counting.nd rfl (Or.inl rfl)) pgs_nil))) (pss_cons (ps_set (i := 7) sc_law_counting.nd rfl (Or.inr rfl) (pe_lc (own := [("_law_at", 6)]) (g := gName 6) rfl sc_law_counting.nd (pi_range1 rfl T.b_range (pa_cons (pe_op op_add (pv 4) pe_int) pa_nil)) (blkOk_by (own := [("_law_at", 6)]) (N := ["_law_size", "_law_lines", "_law_nought", "_law_counted", "_law_k", "_law_line_here", "_law_at", "_law_there", "_law_one", "_law_other"]) (sc := defScope s_law_counting) (by decide +kernel)) (fun _ _ _ _ _ => pg_name (i := 6) sc_law_counting.nd rfl (Or.inl rfl)) (fun _ _ _ _ _ => pts_nil) (fun _ _ _ _ _ => (pe_cmpR op_eq (pv 6) (pv 4) (nomark _))))) (pss_cons (ps_if (pt_cmpR op_ne (pe_ix (r := rIxT K) ix_tup (pv 5) pe_int (fun _ _ => rfl)) pe_str (nomark _)) (pss_one (ps_for PassesOwn.never rfl (pi_tup (pe_tup (pa_cons (pe_tup (pa_cons (pe_ix (r := rIxT K) ix_tup (pv 5) pe_int (fun _ _ => rfl)) (pa_cons (pe_ix (r := rIxT K) ix_tup (pv 5) pe_int (fun _ _ => rfl)) pa_nil))) (pa_cons (pe_tup (pa_cons (pe_ix (r := rIxT K) ix_tup (pv 5) pe_int (fun _ _ => rfl)) (pa_cons (pe_ix (r := rIxT K) ix_tup (pv 5) pe_int (fun _ _ => rfl)) pa_nil))) pa_nil)))) (pg_tup (n := 2) rfl (pgs_cons (pg_name (i := 8) sc_law_counting.nd rfl (Or.inl rfl)) (pgs_cons (pg_name (i := 9) sc_law_counting.nd rfl (Or.inl rfl)) pgs_nil))) (pss_one (ps_if (PW.pt (pw_and (pt_cmpR op_ge (pv 8) (pv 0) (nomark _)) (pw_and1 (PW.pt (pw_or (pt_cmpR op_ne (pe_ix (r := rIxT K) ix_tup (pv 5) pe_int (fun _ _ => rfl)) pe_str (nomark _)) (pw_or1 (pt_not (pt_val (pe_ix (r := rIxL K) ix_list (pv 2) (pv 9) (fun _ _ => rfl)))))))))) (pss_one (ps_for PassesOwn.never rfl (pi_list (pe_ix (r := rIxL K) ix_list (pv 3) (pe_op op_sub (pv 8) (pv 0)) (fun _ _ => rfl))) (pg_name (i := 6) sc_law_counting.nd rfl (Or.inl rfl)) (pss_one (ps_asg pe_bl (pg_sub (pv 7) (pv 6) set_list))))) pss_nil)))) pss_nil) (pss_one (ps_expr (pe_bm PySem.F.plainAttrs_list PySem.F.slot_list_append PySem.F.type_list_append mt_append (pv 3) (pa_cons (pe_lc (own := [("_law_at", 6)]) (g := gName 6) rfl sc_law_counting.nd (pi_range1 rfl T.b_range (pa_cons (pe_op op_add (pv 4) pe_int) pa_nil)) (blkOk_by (own := [("_law_at", 6)]) (N := ["_law_size", "_law_lines", "_law_nought", "_law_counted", "_law_k", "_law_line_here", "_law_at", "_law_there", "_law_one", "_law_other"]) (sc := defScope s_law_counting) (by decide +kernel)) (fun _ _ _ _ _ => pg_name (i := 6) sc_law_counting.nd rfl (Or.inl rfl)) (fun _ _ _ _ _ => (pts_one (pt_val (pe_ix (r := rIxL K) ix_list (pv 7) (pv 6) (fun _ _ => rfl))))) (fun _ _ _ _ _ => (pv 6))) pa_nil))))))) (pss_one (ps_ret (pe_tupleOf rfl T.b_tuple (pe_ix (r := rIxL K) ix_list (pv 3) (pe_op op_sub (pe_callB (r := cLen K) call_len_seq (by rfl) T.b_len (by decide +kernel) (pa_cons (pv 1) pa_nil)) pe_int) (fun _ _ => rfl))))))), ?_⟩
  have m1 := hp.m1
  have m60 := hp.m60
  generalize hm : ls.length = m at *
  refine q_setL en (el_lst (ds := []) ea_n) fun A ds σ1 H1 hA0 nA pd en k1 => ?_
  subst pd
  obtain ⟨v3, g3, s3⟩ := en.get (i := 3) rfl (by intro z; cases z)
  have hA1 : H1 A = some (.lst []) := by
    cases s3 with
    | lst _ h =>
      obtain ⟨xs, h1, h2⟩ := h
      cases h2
      exact h1
  have ev3 : v3 = .ref A := by
    cases s3
    rfl
  subst ev3
  have uA : u ≠ A := by
    have en0 := En.start (N := ["_law_size", "_law_lines", "_law_nought", "_law_counted", "_law_k", "_law_line_here", "_law_at", "_law_there", "_law_one", "_law_other"]) hv rk
    exact En.ne (i := 2) en0 rfl hA0
  have en2 : En r H1 σ1 [.dat (nD n), .dat (lsD ls), .lst u (blD (n + m) (nzf n ls)), .adr A, .any, .any, .any, .any, .any, .any] := by
    have := en.set 3 (v := .ref A) (s := .adr A) (.adr A)
    rw [set_self g3] at this
    exact this
  refine q_seq (l_enumT (ds := ls.map lD) en2 (ea_c (ed_var rfl) ea_nil) (fun Hb i σ' H' => ∃ ps : List Addr, ps.length = i ∧ H' A = some (.lst (ps.map V.ref)) ∧ (∀ k p, ps[k]? = some p → p ≠ A ∧ some p ≠ r ∧ Ls H' p ((cnt n (nzf n ls) ls k).map nD)) ∧ En r H' σ' [.dat (nD n), .dat (lsD ls), .lst u (blD (n + m) (nzf n ls)), .adr A, .any, .any, .any, .any, .any, .any] ∧ Kp r H H' ∧ Kx Hb H') (fun Hb en k => ⟨[], rfl, k.lst A _ nA hA1, fun k p h => by simp at h, en, k1.trans k, Kx.refl _⟩) (fun Hb i σ' H' ⟨_, _, _, _, _, _, k⟩ => k) (fun Hb i d v σ' H' H'' kb hd ⟨ps, hps, hA, hls, en, k, kx⟩ kp hdt => ?_) fun Hb σ' H' kb ⟨ps, hps, hA, hls, en, k, kx⟩ => ?_)
  · obtain ⟨l, hl1, rfl⟩ := getE_map hd
    have hi := (List.getElem?_eq_some_iff.mp hl1).1
    rw [hm] at hi
    have hok := hp.rn.get hl1
    have hA2 := kp.lst A _ nA hA
    have hls2 : ∀ k p, ps[k]? = some p → p ≠ A ∧ some p ≠ r ∧ Ls H'' p ((cnt n (nzf n ls) ls k).map nD) := fun k p h => by
      obtain ⟨a1, a2, a3⟩ := hls k p h
      exact ⟨a1, a2, kp.ls a2 a3⟩
    have eE : ∀ k j, Ed1 n (nzf n ls) ls k j → j < k := fun k j e => ed1_lt hp.rn e
    refine g_two (en.mono kp) hdt fun σ2 en => ?_
    refine q_setL en (el_rng1 (n := i + 1) (f := fun _ => true) (v := fun j => .bl (decide (j = i))) (ea_c (Ed.is (ed_i (f := fun i j => i + j) (ed_var rfl) ed_int) rfl) ea_nil) (by omega) (fun j _ => eb_yes) fun j _ _ => Ed.is (ed_eqI (ed_var rfl) (ed_var rfl)) ?_) fun Tt ds σ3 H3 hT nT pd en k3 => ?_
    · congr 1
      by_cases h : j = i
      · rw [decide_eq_true h, h]
        simp
      · rw [decide_eq_false h]
        have : ¬ ((j : Int) = (i : Int)) := by omega
        simp [this]
    rw [compL_all] at pd
    have pd' : ds = blD (i + 1) fun j => decide (j = i) := pd
    subst pd'
    clear pd
    have uT : u ≠ Tt := En.ne (i := 2) ‹En r H'' σ2 _› rfl hT
    have AT : A ≠ Tt := ne_of_none hA2 hT
    refine q_ifJ (fun σ' Hx => ∃ g, (∀ j, j < i + 1 → (g j = true ↔ Rch (Ed1 n (nzf n ls) ls) i j)) ∧ En r Hx σ' [.dat (nD n), .dat (lsD ls), .lst u (blD (n + m) (nzf n ls)), .adr A, .dat (nD i), .any, .any, .lst Tt (blD (i + 1) g), .any, .any] ∧ Kp r H'' Hx) en (b := !decide ((lP l).1 = ("num" : Str))) ?_ (fun nx hnx hb H4 en k4 => ?_) (fun hb H4 en k4 => ⟨_, fun j hj => ?_, En.drops [5] en, k3.trans k4⟩) fun σ4 H4 h4 => ?_
    · cases l with
      | num x => exact eb_test (ed_neS (ed_ix0 (ds := [qD x]) (ed_var rfl)) ed_str)
      | op w a b => exact eb_test (ed_neS (ed_ix0 (ds := [nD a, nD b]) (ed_var rfl)) ed_str)
    · cases l with
      | num x => exact absurd hb (by show ¬ (!decide (("num" : Str) = "num")) = true; decide +kernel)
      | op wd a b =>
        have la : a < n + i := hok.1
        have lb : b < n + i := hok.2
        have e0 : ∀ {r : Option Addr} {G : List Sl}, G[5]? = some (.dat (lD (.op wd a b))) → Ed r (tOp (rIxT K) (tVar 5) (tC (.int 0))) G (.str (wS wd)) := fun h => ed_ix0 (ds := [nD a, nD b]) (ed_var h)
        have e1 : ∀ {r : Option Addr} {G : List Sl}, G[5]? = some (.dat (lD (.op wd a b))) → Ed r (tOp (rIxT K) (tVar 5) (tC (.int 1))) G (nD a) := fun h => ed_ix1 (c := .str (wS wd)) (ds := [nD b]) (ed_var h)
        have e2 : ∀ {r : Option Addr} {G : List Sl}, G[5]? = some (.dat (lD (.op wd a b))) → Ed r (tOp (rIxT K) (tVar 5) (tC (.int 2))) G (nD b) := fun h => ed_ix2 (b := .str (wS wd)) (c := nD a) (ds := []) (ed_var h)
        refine l_tup (ds := [.tup [nD a, nD b], .tup [nD b, nD a]]) en (ed_tup (ea_cd (ed_tup (ea_cd (e1 rfl) (ea_cd (e2 rfl) ea_n))) (ea_cd (ed_tup (ea_cd (e2 rfl) (ea_cd (e1 rfl) ea_n))) ea_n))) (fun Hb i2 σ' Hx => ∃ g, (∀ j, j < i + 1 → (g j = true ↔ (j = i ∨ (1 ≤ i2 ∧ ∃ l, a = n + l ∧ ¬ (wd = .mul ∧ nzf n ls b = true) ∧ Rch (Ed1 n (nzf n ls) ls) l j) ∨ (2 ≤ i2 ∧ ∃ l, b = n + l ∧ ¬ (wd = .mul ∧ nzf n ls a = true) ∧ Rch (Ed1 n (nzf n ls) ls) l j)))) ∧ En r Hx σ' [.dat (nD n), .dat (lsD ls), .lst u (blD (n + m) (nzf n ls)), .adr A, .dat (nD i), .dat (lD (.op wd a b)), .any, .lst Tt (blD (i + 1) g), .any, .any] ∧ Kp r H'' Hx ∧ Kx Hb Hx) (fun Hb en k => ⟨_, fun j hj => ?_, en, (k3.trans k4).trans k, Kx.refl _⟩) (fun Hb i σ' H' ⟨_, _, _, _, k⟩ => k) (fun Hb i2 d v σ' Hx kb hd hdt ⟨g, hg, en, k, kx⟩ => ?_) fun Hb σ' Hx kb ⟨g, hg, en, k, kx⟩ => ?_
        · rw [decide_eq_true_eq]
          constructor
          · exact .inl
          · rintro (h | ⟨h, _⟩ | ⟨h, _⟩)
            · exact h
            · omega
            · omega
        · obtain ⟨x, y, rfl, hx, hy, hg'⟩ : ∃ x y : Nat, d = .tup [nD x, nD y] ∧ x < n + i ∧ y < n + i ∧ ∀ g' : Nat → Bool, (∀ j, j < i + 1 → (g' j = true ↔ (g j = true ∨ ∃ l, x = n + l ∧ ¬ (wd = .mul ∧ nzf n ls y = true) ∧ Rch (Ed1 n (nzf n ls) ls) l j))) → ∀ j, j < i + 1 → (g' j = true ↔ (j = i ∨ (1 ≤ i2 + 1 ∧ ∃ l, a = n + l ∧ ¬ (wd = .mul ∧ nzf n ls b = true) ∧ Rch (Ed1 n (nzf n ls) ls) l j) ∨ (2 ≤ i2 + 1 ∧ ∃ l, b = n + l ∧ ¬ (wd = .mul ∧ nzf n ls a = true) ∧ Rch (Ed1 n (nzf n ls) ls) l j))) := by
            rcases i2 with _ | _ | i2
            · refine ⟨a, b, (Option.some.inj hd).symm, la, lb, fun g' h j hj => ?_⟩
              rw [h j hj, hg j hj]
              constructor
              · rintro ((h | ⟨h, _⟩ | ⟨h, _⟩) | h)
                · exact .inl h
                · omega
                · omega
                · exact .inr (.inl ⟨by omega, h⟩)
              · rintro (h | ⟨_, h⟩ | ⟨h, _⟩)
                · exact .inl (.inl h)
                · exact .inr h
                · omega
            · refine ⟨b, a, (Option.some.inj hd).symm, lb, la, fun g' h j hj => ?_⟩
              rw [h j hj, hg j hj]
              constructor
              · rintro ((h | ⟨_, h⟩ | ⟨h, _⟩) | h)
                · exact .inl h
                · exact .inr (.inl ⟨by omega, h⟩)
                · omega
                · exact .inr (.inr ⟨by omega, h⟩)
              · rintro (h | ⟨_, h⟩ | ⟨_, h⟩)
                · exact .inl (.inl h)
                · exact .inl (.inr (.inl ⟨by omega, h⟩))
                · exact .inr h
            · cases hd
          refine g_two en hdt fun σ8 en => ?_
          refine s_ifB en (eb_and (eb_test (ed_c (f := fun i j => decide (i ≥ j)) (ed_var rfl) (ed_var rfl))) fun _ => eb_or (eb_test (ed_neS (e0 rfl) ed_str)) fun _ => eb_not (eb_B (ed_ixL (ev_var rfl) (ed_var rfl) (blD_get (by omega))))) (fun hb H9 en k9 => ?_) fun hb H9 en k9 => ?_
          · rw [Bool.and_eq_true, wS_mul] at hb
            have hge : n ≤ x := by
              have := of_decide_eq_true hb.1
              omega
            have hcnt : ¬ (wd = .mul ∧ nzf n ls y = true) := by
              rintro ⟨h1, h2⟩
              rw [h1, h2] at hb
              exact absurd hb.2 (by decide)
            have hxl : x - n < ps.length := by omega
            obtain ⟨q1, q2, q3⟩ := hls2 (x - n) ps[x - n] (List.getElem?_eq_getElem hxl)
            generalize hpq : ps[x - n] = pq at q1 q2 q3
            have hpe : ps[x - n]? = some pq := by rw [← hpq]; exact List.getElem?_eq_getElem hxl
            have qT : pq ≠ Tt := ls_ne q3 hT
            have k9' := k.trans k9
            refine l_lstH (a := pq) (ds := (cnt n (nzf n ls) ls (x - n)).map nD) q2 (fun Q q => pt_ixA (k := x - n) (ps := ps) en rfl nA (k9'.lst A _ nA hA2) (Ed.is (ed_i (f := fun i j => i - j) (ed_var rfl) (ed_var rfl)) (by congr 1; omega)) hpe q2 (k9'.ls q2 q3) Q q) (fun Hb2 t σ' Hy => ∃ g', (∀ j, j < i + 1 → (g' j = true ↔ (g j = true ∨ j ∈ (cnt n (nzf n ls) ls (x - n)).take t))) ∧ En r Hy σ' [.dat (nD n), .dat (lsD ls), .lst u (blD (n + m) (nzf n ls)), .adr A, .dat (nD i), .dat (lD (.op wd a b)), .any, .lst Tt (blD (i + 1) g'), .any, .any] ∧ Kp r H'' Hy ∧ Kx Hb2 Hy ∧ Kx Hb Hy) (fun Hb2 k2 => ⟨g, fun j hj => ?_, (En.drops [8, 9] en).mono k2, k9'.trans k2, Kx.refl _, (kx.trans k9.kx).trans k2.kx⟩) (fun Hb2 t σ' Hy kb2 ⟨_, _, _, h3, h4, _⟩ => ⟨h4, fun xs hxs => ?_⟩) (fun Hb2 t d v σ' Hy kb2 hd2 hdt2 ⟨g', hg2, en, k', kx', kx''⟩ => ?_) fun Hb2 σ' Hy kb2 ⟨g', hg2, en, k', kx', kx''⟩ => ?_
            · rw [List.take_zero]
              constructor
              · exact .inl
              · rintro (h | h)
                · exact h
                · cases h
            · obtain ⟨xs0, hx0, _⟩ := q3
              have z1 := (k9'.trans kb2).lst pq _ q2 hx0
              rw [z1] at hxs
              cases hxs
              exact h3.lst pq _ q2 hx0
            · obtain ⟨at', ha1, rfl⟩ := getE_map hd2
              have hmem : at' ∈ cnt n (nzf n ls) ls (x - n) := List.mem_of_getElem? ha1
              have hle := rch_le eE ((mem_cnt hp.rn).mp hmem)
              have en := en.set 6 (.dat hdt2)
              refine s_setIx en rfl (m := at') ed_bl (ed_var rfl) (by rw [blD_len]; omega) (by simp [noAl, uT]) k' hT fun H10 en k10 kx10 => ?_
              rw [blD_set] at en
              refine ⟨_, fun j hj => ?_, En.drops [6] en, k10, kx'.trans kx10, kx''.trans kx10⟩
              rw [take_snoc ha1, List.mem_append, List.mem_singleton, Bool.or_eq_true, decide_eq_true_eq, hg2 j hj]
              constructor
              · rintro (h | h | h)
                · exact .inr (.inr h)
                · exact .inl h
                · exact .inr (.inl h)
              · rintro (h | h | h)
                · exact .inr (.inl h)
                · exact .inr (.inr h)
                · exact .inl h
            · rw [List.length_map, List.take_length] at hg2
              refine ⟨g', hg' g' fun j hj => ?_, en, k', kx''⟩
              rw [hg2 j hj, mem_cnt hp.rn]
              constructor
              · rintro (h | h)
                · exact .inl h
                · exact .inr ⟨x - n, by omega, hcnt, h⟩
              · rintro (h | ⟨l, e, _, h⟩)
                · exact .inl h
                · have : l = x - n := by omega
                  subst this
                  exact .inr h
          · refine ⟨g, hg' g fun j hj => ?_, En.drops [8, 9] en, k.trans k9, kx.trans k9.kx⟩
            rw [wS_mul] at hb
            constructor
            · exact .inl
            · rintro (h | ⟨l, h1, h2, _⟩)
              · exact h
              · exfalso
                rw [Bool.and_eq_false_iff] at hb
                rcases hb with hb | hb
                · have := of_decide_eq_false hb
                  omega
                · rw [Bool.or_eq_false_iff] at hb
                  apply h2
                  refine ⟨?_, ?_⟩
                  · simpa using hb.1
                  · simpa using hb.2
        · refine hnx _ _ ⟨g, fun j hj => ?_, En.drops [5] en, k⟩
          rw [hg j hj]
          constructor
          · rintro (h | ⟨_, l, h1, h2, h3⟩ | ⟨_, l, h1, h2, h3⟩)
            · rw [h]
              exact .refl _
            · exact .step ⟨wd, a, b, hl1, .inl ⟨h1, h2⟩⟩ h3
            · exact .step ⟨wd, a, b, hl1, .inr ⟨h1, h2⟩⟩ h3
          · intro h
            rcases h.head with h | ⟨l, ⟨w', a', b', h1, h2⟩, h3⟩
            · exact .inl h
            · rw [hl1] at h1
              cases h1
              rcases h2 with ⟨h4, h5⟩ | ⟨h4, h5⟩
              · exact .inr (.inl ⟨(show 1 ≤ 2 by decide), l, h4, h5, h3⟩)
              · exact .inr (.inr ⟨(show 2 ≤ 2 by decide), l, h4, h5, h3⟩)
    · rw [decide_eq_true_eq]
      constructor
      · intro h
        rw [h]
        exact .refl _
      · intro h
        rcases h.head with h | ⟨l', ⟨w', a', b', h1, h2⟩, h3⟩
        · exact h
        · rw [hl1] at h1
          cases h1
          have hb' : (!decide (wS w' = ("num" : Str))) = false := hb
          cases w' <;> exact absurd hb' (by decide +kernel)
    · obtain ⟨g, hg, en, k4⟩ := h4
      refine q_appA (ps := ps) en rfl nA (k4.lst A _ nA hA2) (el_rng1 (n := i + 1) (f := g) (v := nD) (ea_c (Ed.is (ed_i (f := fun i j => i + j) (ed_var rfl) ed_int) rfl) ea_nil) (by omega) (fun j hj => eb_B (ed_ixL (ev_var rfl) (ed_var rfl) (blD_get hj))) fun j _ _ => ed_var rfl) (by omega) (by simp [noAl, uA, AT.symm]) fun p ds H5 H6 hp5 np pd k5 hls5 hA5 eH6 en6 => ?_
      have pA : p ≠ A := fun z => by
        rw [z, k4.lst A _ nA hA2] at hp5
        cases hp5
      have ed : ds = (cnt n (nzf n ls) ls i).map nD := by
        rw [pd]
        unfold compL
        rw [cnt_of hp.rn hg]
      subst eH6
      refine ⟨ps ++ [p], by rw [List.length_append, hps]; rfl, upd_same, fun k' p' h => ?_, En.drops [4, 5, 6, 7, 8, 9] en6, (((k.trans kp).trans k4).trans k5).mut hA0, (((kx.trans kp.kx).trans k4.kx).trans k5.kx).trans (Kx.mut hA5)⟩
      rcases Nat.lt_or_ge k' ps.length with hk | hk
      · rw [List.getElem?_append_left hk] at h
        obtain ⟨a1, a2, a3⟩ := hls2 k' p' h
        exact ⟨a1, a2, Ls.updNe (k5.ls a2 (k4.ls a2 a3)) a1 hA5⟩
      · rw [List.getElem?_append_right hk] at h
        have hk0 : k' - ps.length = 0 := by
          have := (List.getElem?_eq_some_iff.mp h).1
          simp at this
          omega
        rw [hk0] at h
        have : p = p' := by simpa using h
        subst this
        have hki : k' = i := by omega
        subst hki
        refine ⟨pA, np, Ls.updNe ?_ pA hA5⟩
        rw [← ed]
        exact hls5
  · rw [List.length_map, hm] at hps
    have hpl : m - 1 < ps.length := by omega
    obtain ⟨q1, q2, q3⟩ := hls (m - 1) ps[m - 1] (List.getElem?_eq_getElem hpl)
    generalize hpq : ps[m - 1] = pq at q1 q2 q3
    have hpe : ps[m - 1]? = some pq := by rw [← hpq]; exact List.getElem?_eq_getElem hpl
    refine pt_ixA (k := m - 1) (ps := ps) en rfl nA hA (Ed.is (ed_i (f := fun i j => i - j) (ed_lenT (ed_var rfl)) ed_int) (by rw [List.length_map, hm]; congr 1; omega)) hpe q2 q3 _ fun H2 k2 hls2 => ?_
    obtain ⟨xs, hx, hdx⟩ := hls2
    refine .inl ⟨pq, xs, rfl, SqL.of hx, fun b hb => ?_⟩
    have kn : Kp r H2 (L2.upd H2 b (.tup xs)) := Kp.new hb
    refine hq _ _ _ ((k.trans k2).trans kn) (.dat (.tup upd_same (kn.dts hdx))) ?_
    unfold cntD
    rw [hm]
end
end Zk

-- part ZA4
namespace Zk
open PySem PySem.Spec PyProof.Rows L2 Zb Zr Zm RZ
def A_joined : CA := fun _ ss P => ∃ (n : Nat) (w : Wd) (a b : Nat) (F G : Fm), ss = [.dat (lD (.op w a b)), .dat (fmD F), .dat (fmD G)] ∧ FI n 100 F ∧ FI n 100 G ∧ F.1.length + G.1.length ≤ 9 ∧ F.2.length + G.2.length ≤ 48 ∧ F.2.length * G.2.length ≤ 48 ∧ P = fun s => s = .dat (fmD (if w = .mul then mulF F G else addF w F G))
section
variable {r : Option Addr} {K : PySem.W.Frag} {G : List Sl} {σ : L2.St} {H : Hp} {te t1 t2 t3 : TE} {u : TS} {D' : Ends} {i : Nat}
theorem q_setV {d : D} (e : En r H σ G) (h : Ed r te G d) (k : ∀ v H', Kp r H H' → Dt H' v d → u D' (σ.set i (some v)) H') : tSeq (tAsg te (gName i)) u D' σ H :=
  h σ H e _ fun v H2 s k2 sv ps => by
    subst ps
    exact k v H2 k2 sv.d
theorem nod_mid {β : Type} {pre post : List (List Nat × β)} {k : List Nat} {v : β} (h : ((pre ++ (k, v) :: post).map (·.1)).Nodup) : k ∉ pre.map (·.1) := by
  rw [List.map_append, List.nodup_append] at h
  intro hk
  exact h.2.2 k hk k (List.mem_cons_self ..) rfl
theorem split_at {α : Type} {l : List α} {i : Nat} {x : α} (h : l[i]? = some x) : l = l.take i ++ x :: l.drop (i + 1) := by
  have h1 := (List.getElem?_eq_some_iff.mp h)
  obtain ⟨hl, hx⟩ := h1
  rw [← hx, ← List.drop_eq_getElem_cons hl, List.take_append_drop]
/-- v + m over the items of a bundle -/
def shV (m : Nat) : D → D
  | .int x => .int (x + (m : Int))
  | d => d
theorem shV_map (m : Nat) (b : List Nat) : (b.map nD).map (shV m) = (sh m b).map nD := by
  unfold sh
  rw [List.map_map, List.map_map]
  refine List.map_congr_left fun x _ => ?_
  rfl
theorem el_sh {m : Nat} {b : List Nat} {j l : Nat} (hb : G[i]? = some (.dat (loD b))) (hl : b.length < 100000) (hm : ∀ d : D, (G.set j (.dat d))[l]? = some (.dat (nD m))) (hj : ∀ d : D, (G.set j (.dat d))[j]? = some (.dat d)) : El r (tLc (iTup K (tVar i)) (gName j) tYes (tOp (rI0 fun i j => .int (i + j)) (tVar j) (tVar l)) [j]) G (fun ds => ds = (sh m b).map nD) := by
  refine (el_tup (ds := b.map nD) (v := shV m) (ed_var hb) (by rw [List.length_map]; exact hl) fun k d hd => ?_).imp fun ds e => by rw [e, shV_map]
  obtain ⟨x, _, rfl⟩ := getE_map hd
  exact ed_i (f := fun i j => i + j) (ed_var (hj _)) (ed_var (hm _))
end
theorem five {P : Sl → Prop} {a b c d e : Sl} (ha : P a) (hb : P b) (hc : P c) (hd : P d) (he : P e) : ∀ x ∈ [a, b, c, d, e], P x := fun x hx => by
  simp only [List.mem_cons, List.not_mem_nil, or_false] at hx
  rcases hx with h | h | h | h | h <;> (rw [h]; assumption)
theorem look_getD {t : Tm} {k : List Nat} {q : Qt} : (dlook (tmD t) k).getD (qD q) = qD ((glook t k).getD q) := by
  rw [dlook_tm]
  cases glook t k <;> rfl
theorem tm_len (t : Tm) : (tmD t).length = t.length := by
  unfold tmD
  rw [List.length_map]
theorem put_next {t : Tm} (hn : (t.map (·.1)).Nodup) {k : Nat} {b : List Nat} {q : Qt} (h : t[k]? = some (b, q)) : gput (t.take k) b q = t.take (k + 1) := by
  rw [take_snoc h]
  refine gput_fresh ?_
  have e := split_at h
  rw [e] at hn
  exact nod_mid hn
theorem fold_next {w : Wd} {m : Nat} {t acc : Tm} {k : Nat} {p : List Nat × Qt} (h : t[k]? = some p) : (t.take (k + 1)).foldl (addS w m) acc = addS w m ((t.take k).foldl (addS w m) acc) p := by
  rw [take_snoc h, List.foldl_append]
  rfl
/-- what the sum has where the next bundle goes -/
theorem fold_old {w : Wd} {m : Nat} {t acc : Tm} (hn : (t.map (·.1)).Nodup) {k : Nat} {b : List Nat} {q : Qt} (h : t[k]? = some (b, q)) : glook ((t.take k).foldl (addS w m) acc) (sh m b) = glook acc (sh m b) := by
  have e := split_at h
  have hn' : ((t.take k ++ (b, q) :: t.drop (k + 1)).map (·.1)).Nodup := by rw [← e]; exact hn
  have hk := nod_mid hn'
  have hn2 : ((t.take k).map (·.1)).Nodup := by
    rw [List.map_append, List.nodup_append] at hn'
    exact hn'.1
  refine (addS_look (w := w) (m := m) hn2).2 _ fun b' v' hb' z => ?_
  have := sh_inj z
  subst this
  exact hk (List.mem_map.mpr ⟨_, look_mem hb', rfl⟩)
theorem QB.of {x : Qt} {B : Nat} (h : QOk x ∧ QLt x B B) (hB : B ≤ 4200) : QB x := ⟨h.1, h.2.mono hB hB⟩
theorem fmD_nod (cs : List Nat) : (loD cs).nod = true := ints_nods cs
theorem lD_nod (l : Ln) : (lD l).nod = true := by cases l <;> rfl
/-- the three that stay -/
structure S3 (σ : L2.St) (v1 v2 : V) (p : Addr) : Prop where
  a : σ[1]? = some (some v1)
  b : σ[2]? = some (some v2)
  c : σ[4]? = some (some (.ref p))
theorem S3.set {σ : L2.St} {v1 v2 : V} {p : Addr} (s : S3 σ v1 v2 p) {i : Nat} {o : Option V} (h1 : i ≠ 1) (h2 : i ≠ 2) (h4 : i ≠ 4) : S3 (σ.set i o) v1 v2 p :=
  ⟨by rw [List.getElem?_set_ne h1]; exact s.a, by rw [List.getElem?_set_ne h2]; exact s.b, by rw [List.getElem?_set_ne h4]; exact s.c⟩
section
variable {P : Program} {w : World} {K : PySem.W.Frag} {mg : Str → Option Value} {base : Heap} (T : Txt K mg)
include T
theorem ok_law_joined (c_law_added : Cl P w K mg base 2 "_law_added" (Con 3 A_added)) (c_law_product : Cl P w K mg base 2 "_law_product" (Con 2 A_product)) : Cl P w K mg base 3 "_law_joined" (Con 3 A_joined) := by
  refine mkCl T.d_law_joined sc_law_joined (fun _ _ _ _ _ _ us hl => match us, hl with | [_, _, _], _ => rfl) Con.len (fun f cdv A outer s H vs Q E hr h => ?_)
  obtain ⟨r, ss, PP, hl, ⟨n, wd, la, lb, F, G, rfl, hF, hG, h9, h48, hp48, rfl⟩, hv, rk, hq⟩ := h
  have en := En.start (N := ["_law_line_here", "_law_one", "_law_other", "_law_copies", "_law_form_here", "_law_many", "_law_bundle", "_law_moved", "_law_value", "_law_more", "_law_copy"]) hv rk
  have hu := hu_of hr
  refine ⟨_, (pss_cons (ps_par (i := 3) (j := 4) rfl sc_law_joined.nd rfl rfl (by decide) rfl rfl (pa_cons (pe_op op_catA (pe_ix (r := rIxT K) ix_tup (pv 1) pe_int (fun _ _ => rfl)) (pe_ix (r := rIxT K) ix_tup (pv 2) pe_int (fun _ _ => rfl))) (pa_cons pe_dnewT pa_nil)) (by rfl)) (pss_cons (ps_set (i := 5) sc_law_joined.nd rfl (Or.inr rfl) (pe_callB (r := cLen K) call_len_seq (by rfl) T.b_len (by decide +kernel) (pa_cons (pe_ix (r := rIxT K) ix_tup (pv 1) pe_int (fun _ _ => rfl)) pa_nil))) (pss_cons (ps_if (pt_cmpR op_ne (pe_ix (r := rIxT K) ix_tup (pv 0) pe_int (fun _ _ => rfl)) pe_str (nomark _)) (pss_cons (ps_lockO (ps_for PassesOwn.never rfl (pi_keys (pe_ix (r := rIxT K) ix_tup (pv 1) pe_int (fun _ _ => rfl))) (pg_name (i := 6) sc_law_joined.nd rfl (Or.inl rfl)) (pss_one (ps_dput hu (pv 4) (pv 6) (pe_dget hu (pe_ix (r := rIxT K) ix_tup (pv 1) pe_int (fun _ _ => rfl)) (pv 6) (fun _ _ => rfl)) rfl)))) (pss_cons (ps_lockO (ps_for PassesOwn.never rfl (pi_keys (pe_ix (r := rIxT K) ix_tup (pv 2) pe_int (fun _ _ => rfl))) (pg_name (i := 6) sc_law_joined.nd rfl (Or.inl rfl)) (pss_cons (ps_set (i := 7) sc_law_joined.nd rfl (Or.inl rfl) (pe_tupleOf rfl T.b_tuple (pe_lc (own := [("_law_copy", 10)]) (g := gName 10) rfl sc_law_joined.nd (pi_tup (pv 6)) (blkOk_by (own := [("_law_copy", 10)]) (N := ["_law_line_here", "_law_one", "_law_other", "_law_copies", "_law_form_here", "_law_many", "_law_bundle", "_law_moved", "_law_value", "_law_more", "_law_copy"]) (sc := defScope s_law_joined) (by decide +kernel)) (fun _ _ _ _ _ => pg_name (i := 10) sc_law_joined.nd rfl (Or.inl rfl)) (fun _ _ _ _ _ => pts_nil) (fun _ _ _ _ _ => (pe_op op_add (pv 10) (pv 5)))))) (pss_cons (ps_set (i := 8) sc_law_joined.nd rfl (Or.inl rfl) (pe_cl c_law_added hr (by decide) rfl (pa_cons (pe_dget2 hu (pv 4) (pv 7) (pe_tup (pa_cons pe_int (pa_cons pe_int pa_nil))) ⟨rfl, rfl, rfl, rfl⟩) (pa_cons (pe_dget hu (pe_ix (r := rIxT K) ix_tup (pv 2) pe_int (fun _ _ => rfl)) (pv 6) (fun _ _ => rfl)) (pa_cons (pe_ifExp (pt_cmpR op_eq (pe_ix (r := rIxT K) ix_tup (pv 0) pe_int (fun _ _ => rfl)) pe_str (nomark _)) pe_int (pe_un un_neg pe_int)) pa_nil))))) (pss_one (ps_dput hu (pv 4) (pv 7) (pv 8) rfl)))))) (pss_cons (ps_if (pt_cmpR op_eq (pe_ix (r := rIxT K) ix_tup (pe_dget2 hu (pv 4) (pe_tup pa_nil) (pe_tup (pa_cons pe_int (pa_cons pe_int pa_nil))) ⟨rfl, rfl, rfl, rfl⟩) pe_int (fun _ _ => rfl)) pe_int (nomark _)) (pss_one (ps_expr (pe_bm PySem.F.plainAttrs_dict PySem.F.slot_dict_pop PySem.F.type_dict_pop (mt_pop1 hu) (pv 4) (pa_cons (pe_tup pa_nil) pa_nil)))) pss_nil) (pss_one (ps_ret (pe_tup (pa_cons (pv 3) (pa_cons (pv 4) pa_nil)))))))) pss_nil) (pss_cons (ps_lockO (ps_for PassesOwn.never rfl (pi_keys (pe_ix (r := rIxT K) ix_tup (pv 1) pe_int (fun _ _ => rfl))) (pg_name (i := 6) sc_law_joined.nd rfl (Or.inl rfl)) (pss_one (ps_lockO (ps_for PassesOwn.never rfl (pi_keys (pe_ix (r := rIxT K) ix_tup (pv 2) pe_int (fun _ _ => rfl))) (pg_name (i := 9) sc_law_joined.nd rfl (Or.inl rfl)) (pss_cons (ps_set (i := 7) sc_law_joined.nd rfl (Or.inl rfl) (pe_op op_catA (pv 6) (pe_tupleOf rfl T.b_tuple (pe_lc (own := [("_law_copy", 10)]) (g := gName 10) rfl sc_law_joined.nd (pi_tup (pv 9)) (blkOk_by (own := [("_law_copy", 10)]) (N := ["_law_line_here", "_law_one", "_law_other", "_law_copies", "_law_form_here", "_law_many", "_law_bundle", "_law_moved", "_law_value", "_law_more", "_law_copy"]) (sc := defScope s_law_joined) (by decide +kernel)) (fun _ _ _ _ _ => pg_name (i := 10) sc_law_joined.nd rfl (Or.inl rfl)) (fun _ _ _ _ _ => pts_nil) (fun _ _ _ _ _ => (pe_op op_add (pv 10) (pv 5))))))) (pss_one (ps_dput hu (pv 4) (pv 7) (pe_cl c_law_product hr (by decide) rfl (pa_cons (pe_dget hu (pe_ix (r := rIxT K) ix_tup (pv 1) pe_int (fun _ _ => rfl)) (pv 6) (fun _ _ => rfl)) (pa_cons (pe_dget hu (pe_ix (r := rIxT K) ix_tup (pv 2) pe_int (fun _ _ => rfl)) (pv 9) (fun _ _ => rfl)) pa_nil))) rfl)))))))) (pss_one (ps_ret (pe_tup (pa_cons (pv 3) (pa_cons (pv 4) pa_nil))))))))), ?_⟩
  obtain ⟨v1, g1, s1⟩ := en.get (i := 1) rfl (by intro z; cases z)
  obtain ⟨v2, g2, s2⟩ := en.get (i := 2) rfl (by intro z; cases z)
  have d1 := s1.d
  have d2 := s2.d
  refine ed_catA (ds := F.1.map nD) (es := G.1.map nD) (ed_ix0 (ds := [.dct (tmD F.2)]) (ed_var rfl)) (ed_ix0 (ds := [.dct (tmD G.2)]) (ed_var rfl)) (by rw [List.length_map, List.length_map]; omega) _ H en _ fun v3 H1 s k1 sv ps p hp => ?_
  subst ps
  have kn : Kp r H1 (L2.upd H1 p (.dT [])) := Kp.new hp
  refine ⟨_, _, rfl, ?_⟩
  have k2 := k1.trans kn
  have hp0 : H p = none := k1.fresh hp
  have en2 : En r (L2.upd H1 p (.dT [])) (((L2.start ["_law_line_here", "_law_one", "_law_other", "_law_copies", "_law_form_here", "_law_many", "_law_bundle", "_law_moved", "_law_value", "_law_more", "_law_copy"] vs).set 3 (some v3)).set 4 (some (.ref p))) [.dat (lD (.op wd la lb)), .dat (fmD F), .dat (fmD G), .dat (loD (F.1 ++ G.1)), .adr p, .any, .any, .any, .any, .any, .any] := by
    have := ((en.mono k2).set 3 (sv.mono kn)).set 4 (.adr p)
    rw [← List.map_append] at this
    exact this
  have o2 : Own (L2.upd H1 p (.dT [])) p [] := ⟨[], upd_same, .nil⟩
  have hlen : (L2.start ["_law_line_here", "_law_one", "_law_other", "_law_copies", "_law_form_here", "_law_many", "_law_bundle", "_law_moved", "_law_value", "_law_more", "_law_copy"] vs).length = 11 := en.sl.length
  have S2 : S3 (((L2.start ["_law_line_here", "_law_one", "_law_other", "_law_copies", "_law_form_here", "_law_many", "_law_bundle", "_law_moved", "_law_value", "_law_more", "_law_copy"] vs).set 3 (some v3)).set 4 (some (.ref p))) v1 v2 p := by
    refine ⟨?_, ?_, ?_⟩
    · rw [List.getElem?_set_ne (by decide), List.getElem?_set_ne (by decide)]
      exact g1
    · rw [List.getElem?_set_ne (by decide), List.getElem?_set_ne (by decide)]
      exact g2
    · rw [List.getElem?_set_self (by rw [List.length_set, hlen]; decide)]
  generalize ((L2.start ["_law_line_here", "_law_one", "_law_other", "_law_copies", "_law_form_here", "_law_many", "_law_bundle", "_law_moved", "_law_value", "_law_more", "_law_copy"] vs).set 3 (some v3)).set 4 (some (.ref p)) = σ2 at en2 S2
  generalize L2.upd H1 p (.dT []) = H2 at k2 en2 o2
  clear kn
  refine q_setV en2 (Ed.is (ed_lenT (ed_ix0 (ds := [.dct (tmD F.2)]) (ed_var rfl))) (show D.int ((F.1.map nD).length : Nat) = nD F.1.length by rw [List.length_map]; rfl)) fun v5 H3 k3 dv5 => ?_
  have en3 := (en2.mono k3).set 5 (.dat dv5)
  have S3' := S2.set (i := 5) (o := some v5) (by decide) (by decide) (by decide)
  have o3 := o2.mono k3
  replace k3 := k2.trans k3
  generalize hm : F.1.length = m at *
  generalize σ2.set 5 (some v5) = σ3 at en3 S3'
  clear en en2 S2 o2 k2 k1 hv
  have bl : ∀ {F : Fm}, FI n 100 F → ∀ {b : List Nat} {q : Qt} {k : Nat}, F.2[k]? = some (b, q) → glook F.2 b = some q ∧ b.length < 100000 := fun hF b q k h => by
    have hl := mem_look hF.nd (List.mem_of_getElem? h)
    refine ⟨hl, ?_⟩
    have := (hF.val _ _ hl).2.2.2.2
    have := hF.cl
    omega
  have tmget : ∀ {F : Fm} {k : Nat} {b : List Nat} {d : D}, (tmD F.2)[k]? = some (b, d) → ∃ q, F.2[k]? = some (b, q) ∧ d = qD q := fun h => by
    obtain ⟨x, h1, h2⟩ := getE_map h
    cases h2
    exact ⟨x.2, h1, rfl⟩
  have okJ : ∀ {HB : Hp} {σ : L2.St} {x6 x7 x8 x9 x10 : Sl}, Kw r H HB → S3 σ v1 v2 p → (∀ x ∈ [x6, x7, x8, x9, x10], x = .any ∨ ∃ d : D, x = .dat d ∧ d.nod = true) → okG (Old HB σ) 0 [.dat (lD (.op wd la lb)), .dat (fmD F), .dat (fmD G), .dat (loD (F.1 ++ G.1)), .adr p, .dat (nD m), x6, x7, x8, x9, x10] := fun {HB σ x6 x7 x8 x9 x10} kw s3 hx => by
    have tail : ∀ (l : List Sl) (i : Nat), (∀ x ∈ l, x = .any ∨ ∃ d : D, x = .dat d ∧ d.nod = true) → okG (Old HB σ) i l := by
      intro l
      induction l with
      | nil => intro i _; exact True.intro
      | cons x l ih =>
        intro i h
        have hl := ih (i + 1) fun y hy => h y (List.mem_cons_of_mem _ hy)
        rcases h x (List.mem_cons_self ..) with e | ⟨d, e, hd⟩
        · subst e
          exact hl
        · subst e
          exact And.intro (.inl hd) hl
    exact And.intro (.inl (lD_nod _)) (And.intro (.inr ⟨v1, s3.a, kw.dt d1⟩) (And.intro (.inr ⟨v2, s3.b, kw.dt d2⟩) (And.intro (.inl (fmD_nod _)) (And.intro (.inl rfl) (tail _ _ hx)))))
  have hp9 : ∀ t : Tm, t.length ≤ 96 → t.length < 100000 := fun t h => by omega
  have dat4 : ∀ {σ : L2.St} {H' : Hp} {t : Tm} {x6 x7 x8 x9 x10 : Sl}, En r H' σ [.dat (lD (.op wd la lb)), .dat (fmD F), .dat (fmD G), .dat (loD (F.1 ++ G.1)), .adr p, .dat (nD m), x6, x7, x8, x9, x10] → Own H' p t → S3 σ v1 v2 p → En r H' σ [.dat (lD (.op wd la lb)), .dat (fmD F), .dat (fmD G), .dat (loD (F.1 ++ G.1)), .dat (.dct (tmD t)), .dat (nD m), x6, x7, x8, x9, x10] := fun e o s3 => by
    have := e.set 4 (v := .ref p) (.dat o.dct)
    rw [set_self s3.c] at this
    exact this
  have fin : ∀ (σ' : L2.St) (H' : Hp) (t : Tm), En r H' σ' [.dat (lD (.op wd la lb)), .dat (fmD F), .dat (fmD G), .dat (loD (F.1 ++ G.1)), .adr p, .dat (nD m), .any, .any, .any, .any, .any] → Own H' p t → S3 σ' v1 v2 p → Kp r H H' → fmD (F.1 ++ G.1, t) = fmD (if wd = .mul then mulF F G else addF wd F G) → tRet (tTup (tCons (tVar 3) (tCons (tVar 4) tNil))) { nx := fun x H' => Q V.non H', rt := Q } σ' H' := fun σ' H' t e o s3 k et => by
    refine s_ret (D' := { nx := _, rt := Q }) (dat4 e o s3) (ed_tup (ds := [loD (F.1 ++ G.1), .dct (tmD t)]) (ea_cd (ed_var rfl) (ea_cd (ed_var rfl) ea_n))) fun v H2 s k2 sv ps => hq v H2 s (k.trans k2) sv ?_
    rw [ps, ← et]
    rfl
  by_cases hw : wd = .mul
  · subst hw
    refine q_pass en3 ((eb_test (ed_neS (ed_ix0 (ds := [nD la, nD lb]) (ed_var rfl)) ed_str)).is (by decide +kernel)) fun H4 en4 k4 => ?_
    have o4 := o3.mono k4
    replace k4 := k3.trans k4
    refine q_seq (l_keys (H0 := H) (c := loD F.1) (ds := tmD F.2) en4 S3'.a d1 k4 (fun k σ' H' => En r H' σ' [.dat (lD (.op Wd.mul la lb)), .dat (fmD F), .dat (fmD G), .dat (loD (F.1 ++ G.1)), .adr p, .dat (nD m), .any, .any, .any, .any, .any] ∧ Own H' p ((F.2.take k).flatMap fun x => G.2.map fun y => (x.1 ++ sh m y.1, qop .mul x.2 y.2)) ∧ S3 σ' v1 v2 p) (fun HL kw hsm en => ⟨en, o4.same kw (hsm p hp0), S3'⟩) (fun HB k b d v σ' H' R B kw hn kp hd hdt ⟨en, o, s3⟩ hR => ?_) fun σ' H' H'' ⟨en, o, s3⟩ hsm kw kp => ?_)
    · obtain ⟨q, hq1, rfl⟩ := tmget hd
      have en6 := en.set 6 (.dat hdt)
      have s36 := s3.set (i := 6) (o := some v) (by decide) (by decide) (by decide)
      generalize σ'.set 6 (some v) = σ6 at en6 s36
      obtain ⟨lb1, lb2⟩ := bl hF hq1
      refine l_keys (H0 := HB) (c := loD G.1) (ds := tmD G.2) en6 s36.b (kw.dt d2) kp (fun j σ' H' => En r H' σ' [.dat (lD (.op Wd.mul la lb)), .dat (fmD F), .dat (fmD G), .dat (loD (F.1 ++ G.1)), .adr p, .dat (nD m), .dat (loD b), .any, .any, .any, .any] ∧ Own H' p (((F.2.take k).flatMap fun x => G.2.map fun y => (x.1 ++ sh m y.1, qop .mul x.2 y.2)) ++ (G.2.take j).map fun y => (b ++ sh m y.1, qop .mul q y.2)) ∧ S3 σ' v1 v2 p) (fun HL kw2 hsm en => ⟨en, by rw [List.take_zero, List.map_nil, List.append_nil]; exact o.same kw2 (hsm p (hn p hp0)), s36⟩) (fun HB2 j c d v2' σ' H' R2 B2 kw2 hn2 kp2 hd2 hdt2 ⟨en, o, s3⟩ hR2 => ?_) fun σ' H' H'' ⟨en, o, s3⟩ hsm kw2 kp2 => ?_
      · obtain ⟨q', hq2, rfl⟩ := tmget hd2
        obtain ⟨lc1, lc2⟩ := bl hG hq2
        have en9 := en.set 9 (.dat hdt2)
        have s39 := s3.set (i := 9) (o := some v2') (by decide) (by decide) (by decide)
        generalize σ'.set 9 (some v2') = σ9 at en9 s39
        refine q_setV en9 (Ed.is (ed_catA (ds := b.map nD) (es := (sh m c).map nD) (ed_var rfl) (ed_tupOf (el_sh (b := c) rfl lc2 (fun d => rfl) (fun d => rfl))) (by unfold sh; rw [List.length_map, List.length_map, List.length_map]; have := (hF.val _ _ lb1).2.2.2.2; have := (hG.val _ _ lc1).2.2.2.2; omega)) (show D.tup (b.map nD ++ (sh m c).map nD) = loD (b ++ sh m c) by unfold loD; rw [List.map_append])) fun v7 H5 k5 dv7 => ?_
        have en7 := (en9.mono k5).set 7 (.dat dv7)
        have s37 := s39.set (i := 7) (o := some v7) (by decide) (by decide) (by decide)
        generalize σ9.set 7 (some v7) = σ7 at en7 s37
        have hlt : (((F.2.take k).flatMap fun x => G.2.map fun y => (x.1 ++ sh m y.1, qop .mul x.2 y.2)) ++ (G.2.take j).map fun y => (b ++ sh m y.1, qop .mul q y.2)).length < 100000 := by
          have e := split_at hq1
          have e2 := mulT_len F G
          have e3 : mulT F G = ((F.2.take k).flatMap fun x => G.2.map fun y => (x.1 ++ sh m y.1, qop .mul x.2 y.2)) ++ ((G.2.map fun y => (b ++ sh m y.1, qop .mul q y.2)) ++ (F.2.drop (k + 1)).flatMap fun x => G.2.map fun y => (x.1 ++ sh m y.1, qop .mul x.2 y.2)) := by
            show (F.2.flatMap fun x => G.2.map fun y => (x.1 ++ sh F.1.length y.1, qop .mul x.2 y.2)) = _
            rw [hm]
            conv => lhs; rw [e]
            rw [List.flatMap_append, List.flatMap_cons]
          rw [e3, List.length_append, List.length_append, List.length_map] at e2
          rw [List.length_append, List.length_map, List.length_take]
          omega
        have hfresh : (b ++ sh m c) ∉ (((F.2.take k).flatMap fun x => G.2.map fun y => (x.1 ++ sh m y.1, qop .mul x.2 y.2)) ++ (G.2.take j).map fun y => (b ++ sh m y.1, qop .mul q y.2)).map (·.1) := by
          have e := split_at hq1
          have e' := split_at hq2
          have e3 : mulT F G = (((F.2.take k).flatMap fun x => G.2.map fun y => (x.1 ++ sh m y.1, qop .mul x.2 y.2)) ++ (G.2.take j).map fun y => (b ++ sh m y.1, qop .mul q y.2)) ++ (b ++ sh m c, qop .mul q q') :: (((G.2.drop (j + 1)).map fun y => (b ++ sh m y.1, qop .mul q y.2)) ++ (F.2.drop (k + 1)).flatMap fun x => G.2.map fun y => (x.1 ++ sh m y.1, qop .mul x.2 y.2)) := by
            show (F.2.flatMap fun x => G.2.map fun y => (x.1 ++ sh F.1.length y.1, qop .mul x.2 y.2)) = _
            rw [hm]
            conv => lhs; rw [e]
            rw [List.flatMap_append, List.flatMap_cons]
            have e4 : (G.2.map fun y => (b ++ sh m y.1, qop .mul q y.2)) = (G.2.take j).map (fun y => (b ++ sh m y.1, qop .mul q y.2)) ++ (b ++ sh m c, qop .mul q q') :: (G.2.drop (j + 1)).map fun y => (b ++ sh m y.1, qop .mul q y.2) := by
              conv => lhs; rw [e']
              rw [List.map_append, List.map_cons]
            show _ ++ ((G.2.map fun y => (b ++ sh m y.1, qop .mul q y.2)) ++ _) = _
            rw [e4]
            simp only [List.append_assoc, List.cons_append]
          have hnd := mulT_nd hF hG
          rw [e3] at hnd
          exact nod_mid hnd
        refine s_put (H0 := HB2) (k := b ++ sh m c) (q := qop .mul q q') en7 rfl rfl (ev_call' (ss := [.dat (qD q), .dat (qD q')]) (ea_c (ed_dget (ds := tmD F.2) (k := b) (ed_ix1 (c := loD F.1) (ds := []) (ed_var rfl)) (ed_var rfl) (by rw [dlook_tm, lb1]; rfl)) (ea_c (ed_dget (ds := tmD G.2) (k := c) (ed_ix1 (c := loD G.1) (ds := []) (ed_var rfl)) (ed_var rfl) (by rw [dlook_tm, lc1]; rfl)) ea_nil)) ⟨q, q', rfl, QB.of (hF.vq lb1) (by decide), QB.of (hG.vq lc1) (by decide), rfl⟩) (o.mono k5) hlt (kp2.trans k5) (hn2 p (hn p hp0)) (okJ (kw.trans kw2) s37 (five (.inr ⟨_, rfl, ints_nods _⟩) (.inr ⟨_, rfl, ints_nods _⟩) (.inl rfl) (.inr ⟨_, rfl, ints_nods _⟩) (.inl rfl))) fun H8 en8 kp8 o8 => ⟨kp8, En.drops [7, 9] en8, ?_, s37⟩
        rw [gput_fresh hfresh] at o8
        rw [take_snoc hq2, List.map_append, ← List.append_assoc]
        exact o8
      · rw [tm_len, List.take_length] at o
        refine ⟨kp2, En.drops [6] (en.monoW kw2), ?_, s3⟩
        rw [take_snoc hq1, List.flatMap_append, List.flatMap_cons, List.flatMap_nil, List.append_nil]
        exact o.same kw2 (hsm p (hn p hp0))
    · rw [tm_len, List.take_length] at o
      refine fin σ' H'' (mulT F G) (en.monoW kw) ?_ s3 kp (by rw [if_pos rfl]; rfl)
      have e : mulT F G = F.2.flatMap fun x => G.2.map fun y => (x.1 ++ sh m y.1, qop .mul x.2 y.2) := by
        unfold mulT
        rw [hm]
      rw [e]
      exact o.same kw (hsm p hp0)
  · refine q_take en3 ((eb_test (ed_neS (ed_ix0 (ds := [nD la, nD lb]) (ed_var rfl)) ed_str)).is (by rw [wS_mul, decide_eq_false hw]; rfl)) fun H4 en4 k4 => ?_
    have o4 := o3.mono k4
    replace k4 := k3.trans k4
    refine q_seq (l_keys (H0 := H) (c := loD F.1) (ds := tmD F.2) en4 S3'.a d1 k4 (fun k σ' H' => En r H' σ' [.dat (lD (.op wd la lb)), .dat (fmD F), .dat (fmD G), .dat (loD (F.1 ++ G.1)), .adr p, .dat (nD m), .any, .any, .any, .any, .any] ∧ Own H' p (F.2.take k) ∧ S3 σ' v1 v2 p) (fun HL kw hsm en => ⟨en, o4.same kw (hsm p hp0), S3'⟩) (fun HB k b d v σ' H' R B kw hn kp hd hdt ⟨en, o, s3⟩ hR => ?_) fun σ5 H5 H5' ⟨en5, o5, s35⟩ hsm5 kw5 kp5 => ?_)
    · obtain ⟨q, hq1, rfl⟩ := tmget hd
      have en6 := en.set 6 (.dat hdt)
      have s36 := s3.set (i := 6) (o := some v) (by decide) (by decide) (by decide)
      generalize σ'.set 6 (some v) = σ6 at en6 s36
      obtain ⟨lb1, lb2⟩ := bl hF hq1
      refine s_put (H0 := HB) (k := b) (q := q) en6 rfl rfl (ed_dget (ds := tmD F.2) (k := b) (ed_ix1 (c := loD F.1) (ds := []) (ed_var rfl)) (ed_var rfl) (by rw [dlook_tm, lb1]; rfl)) o (by rw [List.length_take]; have := hF.tl; omega) kp (hn p hp0) (okJ kw s36 (five (.inr ⟨_, rfl, ints_nods _⟩) (.inl rfl) (.inl rfl) (.inl rfl) (.inl rfl))) fun H8 en8 kp8 o8 => ⟨kp8, En.drops [6] en8, ?_, s36⟩
      rw [put_next hF.nd hq1] at o8
      exact o8
    · rw [tm_len, List.take_length] at o5
      replace o5 := o5.same kw5 (hsm5 p hp0)
      replace en5 := en5.monoW kw5
      refine q_seq (l_keys (H0 := H) (c := loD G.1) (ds := tmD G.2) en5 s35.b d2 kp5 (fun k σ' H' => En r H' σ' [.dat (lD (.op wd la lb)), .dat (fmD F), .dat (fmD G), .dat (loD (F.1 ++ G.1)), .adr p, .dat (nD m), .any, .any, .any, .any, .any] ∧ Own H' p ((G.2.take k).foldl (addS wd m) F.2) ∧ S3 σ' v1 v2 p) (fun HL kw hsm en => ⟨en, o5.same kw (hsm p hp0), s35⟩) (fun HB k b d v σ' H' R B kw hn kp hd hdt ⟨en, o, s3⟩ hR => ?_) fun σ6 H6 H6' ⟨en6, o6, s36⟩ hsm6 kw6 kp6 => ?_)
      · obtain ⟨q, hq1, rfl⟩ := tmget hd
        have en6 := en.set 6 (.dat hdt)
        have s36 := s3.set (i := 6) (o := some v) (by decide) (by decide) (by decide)
        generalize σ'.set 6 (some v) = σ6 at en6 s36
        obtain ⟨lb1, lb2⟩ := bl hG hq1
        refine q_setV (d := loD (sh m b)) en6 (ed_tupOf (el_sh (b := b) rfl lb2 (fun d => rfl) (fun d => rfl))) fun v7 H7 k7 dv7 => ?_
        have en7 := (en6.mono k7).set 7 (.dat dv7)
        have s37 := s36.set (i := 7) (o := some v7) (by decide) (by decide) (by decide)
        have o7 := o.mono k7
        generalize σ6.set 7 (some v7) = σ7 at en7 s37
        have eold := fold_old (w := wd) (m := m) (acc := F.2) hG.nd hq1
        have hacc : QB ((glook ((G.2.take k).foldl (addS wd m) F.2) (sh m b)).getD (0, 1)) := by
          rw [eold]
          exact QB.of (hF.gq _) (by decide)
        refine q_setV (d := qD (qop wd ((glook ((G.2.take k).foldl (addS wd m) F.2) (sh m b)).getD (0, 1)) q)) (dat4 en7 o7 s37) (ev_call' (ss := [.dat (qD ((glook ((G.2.take k).foldl (addS wd m) F.2) (sh m b)).getD (0, 1))), .dat (qD q), .dat (.int (if wd = .add then 1 else -1))]) (ea_c (Ed.is (ed_dget2 (k := sh m b) (ed_var rfl) (ed_var rfl) ed_q01) look_getD) (ea_c (ed_dget (ds := tmD G.2) (k := b) (ed_ix1 (c := loD G.1) (ds := []) (ed_var rfl)) (ed_var rfl) (by rw [dlook_tm, lb1]; rfl)) (ea_c (sign_ed (ed_ix0 (ds := [nD la, nD lb]) (ed_var rfl))) ea_nil))) ⟨_, _, wd, hw, rfl, hacc, QB.of (hG.vq lb1) (by decide), rfl⟩) fun v8 H8 k8 dv8 => ?_
        have en8 := (en7.mono k8).set 8 (.dat dv8)
        have s38 := s37.set (i := 8) (o := some v8) (by decide) (by decide) (by decide)
        generalize σ7.set 8 (some v8) = σ8 at en8 s38
        refine s_put (H0 := HB) (k := sh m b) en8 rfl rfl (ed_var rfl) (o7.mono k8) ?_ ((kp.trans k7).trans k8) (hn p hp0) (okJ kw s38 (five (.inr ⟨_, rfl, ints_nods _⟩) (.inr ⟨_, rfl, ints_nods _⟩) (.inr ⟨_, rfl, rfl⟩) (.inl rfl) (.inl rfl))) fun H9 en9 kp9 o9 => ⟨kp9, En.drops [6, 7, 8] en9, ?_, s38⟩
        · have := addS_len (w := wd) (m := m) (gs := G.2.take k) (acc := F.2)
          rw [List.length_take] at this
          have := hF.tl
          have := hG.tl
          omega
        · rw [fold_next hq1]
          exact o9
      · rw [tm_len, List.take_length] at o6
        replace o6 := o6.same kw6 (hsm6 p hp0)
        replace en6 := en6.monoW kw6
        have eT : G.2.foldl (addS wd m) F.2 = addT wd F G := by
          unfold addT
          rw [hm]
        rw [eT] at o6
        refine q_if0 (dat4 en6 o6 s36) (eb_test (ed_eqI (ed_ix0 (d := .int ((glook (addT wd F G) []).getD (1, 1)).1) (ds := [.int ((glook (addT wd F G) []).getD (1, 1)).2]) (Ed.is (ed_dget2 (k := []) (ed_var rfl) ed_t0 (ed_tup (ds := [.int 1, .int 1]) (ea_cd ed_int (ea_cd ed_int ea_n)))) (look_getD (q := (1, 1))))) ed_int)) (fun hb H7 en7 k7 => ?_) fun hb H7 en7 k7 => ?_
        · have hz : ((glook (addT wd F G) []).getD (1, 1)).1 = 0 := of_decide_eq_true hb
          have o7 := o6.mono k7
          have en7' := en6.mono k7
          obtain ⟨xs, hxp, hxs⟩ := id o7
          refine ⟨.ref p, s36.c, .inr (.inr (.inl ⟨rfl, .inr ⟨xs, hxp⟩⟩)), ?_⟩
          refine ea_c (r := r) (s := .dat (loD [])) (ss := []) ed_t0 ea_nil σ6 H7 en7 _ fun vs' H8 ss k8 sv pv => ?_
          subst pv
          cases sv with
          | cons a b =>
            cases b
            obtain ⟨kb, rfl, hkb⟩ := keyT (k := []) a.d
            have o8 := o7.mono k8
            obtain ⟨xs8, hxp8, hxs8⟩ := id o8
            have hlk := hxs8.look []
            rw [dlook_tm] at hlk
            cases hq0 : glook (addT wd F G) [] with
            | none =>
              rw [hq0] at hz
              exact absurd hz (by decide)
            | some q0 =>
              rw [hq0] at hlk
              obtain ⟨y, hy, hyd⟩ := hlk
              have en8 := en7'.mono k8
              refine ⟨p, xs8, kK [], kb, y, rfl, rfl, hxp8, hkb, hy, ?_⟩
              have kk := (kp6.trans k7).trans k8
              refine fin σ6 _ (gdrop (addT wd F G) []) (En.updD en8 hxp8 kk hp0 (okJ (Kp.refl r H).w s36 (five (.inl rfl) (.inl rfl) (.inl rfl) (.inl rfl) (.inl rfl)))) ⟨_, upd_same, DtKs.monoT (fun a zs z => by rw [upd_ne (ne_of z hxp8 (by intro z; cases z))]; exact z) (tm_drop hxs8)⟩ s36 (kk.mut hp0) ?_
              rw [if_neg hw]
              show _ = fmD (F.1 ++ G.1, if ((glook (addT wd F G) []).getD (1, 1)).1 = 0 then gdrop (addT wd F G) [] else addT wd F G)
              rw [if_pos hz]
        · have hz : ¬ ((glook (addT wd F G) []).getD (1, 1)).1 = 0 := of_decide_eq_false hb
          refine fin σ6 H7 (addT wd F G) (en6.mono k7) (o6.mono k7) s36 (kp6.trans k7) ?_
          rw [if_neg hw]
          show _ = fmD (F.1 ++ G.1, if ((glook (addT wd F G) []).getD (1, 1)).1 = 0 then gdrop (addT wd F G) [] else addT wd F G)
          rw [if_neg hz]
end
end Zk

-- part ZMathF
namespace Zk
open Zb Zm
/-- bounds of a short program's values -/
def Bn : Nat → Nat
  | 0 => 3
  | k + 1 => 2 * Bn k + 1
theorem Bn_le : ∀ k, k ≤ 9 → Bn k ≤ 2047 := by decide
theorem Bn_3 : ∀ k, 3 ≤ Bn k
  | 0 => Nat.le_refl _
  | k + 1 => by
    have := Bn_3 k
    show 3 ≤ 2 * Bn k + 1
    omega
theorem short_bd {n : Nat} {pt : List Qt} (hp : PtOk n pt) {ls : List Ln} (h : Rn n ls) : ∀ q ∈ vrun pt ls, QLt q (Bn ls.length) (Bn ls.length) := by
  induction h with
  | nil => exact fun q hq => (hp.2 q hq).2.mono (Nat.le_refl _) (by decide)
  | snoc h1 h2 ih =>
    rename_i ls l
    rw [vrun_snoc, List.length_append, List.length_singleton]
    intro q hq
    have hlen := vrun_len pt ls
    rw [hp.1] at hlen
    have e : Bn (ls.length + 1) = 2 * Bn ls.length + 1 := rfl
    rw [e]
    rcases List.mem_append.mp hq with z | z
    · exact (ih q z).mono (by omega) (by omega)
    · rw [List.mem_singleton.mp z]
      have b3 := Bn_3 ls.length
      cases l with
      | num x =>
        have h4 : QLt x 3 3 := ⟨Nat.le_trans h2.2.1 (by decide), Nat.le_trans h2.2.2 (by decide)⟩
        exact h4.mono (by omega) (by omega)
      | op w a b =>
        have ha := ih _ (getD_mem (d := (0, 1)) (l := vrun pt ls) (i := a) (by rw [hlen]; exact h2.1))
        have hb := ih _ (getD_mem (d := (0, 1)) (l := vrun pt ls) (i := b) (by rw [hlen]; exact h2.2))
        refine qop_le ha hb ?_ (by omega)
        cases w with
        | mul =>
          show Bn ls.length + Bn ls.length ≤ _
          omega
        | add => exact ⟨by omega, by omega⟩
        | sub => exact ⟨by omega, by omega⟩
theorem short_vb {n : Nat} {ls : List Ln} (h : Rn n ls) (hl : ls.length ≤ 9) : VB n ls := fun pt hp q hq =>
  have hb := Bn_le _ hl
  ⟨vrun_ok hp h q hq, (short_bd hp h q hq).mono (by omega) (by omega)⟩
def joinF (w : Wd) (F G : Fm) : Fm := if w = .mul then mulF F G else addF w F G
theorem joinF_ok {n : Nat} (n8 : n ≤ 8) {w : Wd} {F G : Fm} (hF : FI n 100 F) (hG : FI n 100 G) (h9 : F.1.length + G.1.length ≤ 9) (h48 : F.2.length + G.2.length ≤ 48) (hp48 : F.2.length * G.2.length ≤ 48) : FI n 201 (joinF w F G) ∧ fC n (joinF w F G) = cop w (fC n F) (fC n G) := by
  unfold joinF
  by_cases hw : w = .mul
  · rw [if_pos hw]
    have := mulF_ok hF hG h9 hp48
    rw [hw]
    exact ⟨this, mulF_C n8 hF hG this⟩
  · rw [if_neg hw]
    have := addF_ok hw hF hG h9 h48
    exact ⟨this, addF_C n8 hw hF hG this⟩
def T30 : Int := (10 : Int) ^ 30
theorem FI.small {n : Nat} {F : Fm} (h : FI n 201 F) (hs : ∀ x ∈ F.2, (x.2.1.natAbs : Int) ≤ T30 ∧ x.2.2 ≤ T30) : FI n 100 F := by
  refine ⟨h.nd, fun k v e => ?_, h.cp, h.cl, h.tl⟩
  obtain ⟨h1, h2, _, h4⟩ := h.val k v e
  obtain ⟨s1, s2⟩ := hs _ (look_mem e)
  have t : T30 ≤ 2 ^ 100 := by decide
  have p : 0 < v.2 := h1.1
  have c : ((2 ^ 100 : Nat) : Int) = 2 ^ 100 := by decide
  refine ⟨h1, h2, ⟨?_, ?_⟩, h4⟩
  · have : (v.1.natAbs : Int) ≤ 2 ^ 100 := Int.le_trans s1 t
    omega
  · have : v.2 ≤ 2 ^ 100 := Int.le_trans s2 t
    omega
theorem inF_look {j : Nat} {k : List Nat} {v : Qt} (e : glook (inF j).2 k = some v) : k = [0] ∧ v = (1, 1) := by
  have := look_mem e
  have this : (k, v) ∈ [([0], ((1 : Int), (1 : Int)))] := this
  rw [List.mem_singleton, Prod.mk.injEq] at this
  exact this
/-- two inputs put together stay small -/
theorem easy {n i j : Nat} (hi : i < n) (hj : j < n) (w : Wd) : ∀ x ∈ (joinF w (inF i) (inF j)).2, (x.2.1.natAbs : Int) ≤ T30 ∧ x.2.2 ≤ T30 := by
  have hF := (inF_ok hi).1
  have hG := (inF_ok hj).1
  have small : ∀ v : Qt, (v = (1, 1) ∨ v = (-1, 1)) → (v.1.natAbs : Int) ≤ T30 ∧ v.2 ≤ T30 := fun v h => by
    rcases h with h | h <;> (subst h; decide)
  intro x hx
  unfold joinF at hx
  by_cases hw : w = .mul
  · rw [if_pos hw] at hx
    have e := mem_look (k := x.1) (v := x.2) (mulT_nd hF hG) hx
    obtain ⟨b, p, c, q, h1, h2, _, h4⟩ := (mulT_look hF hG).mp e
    rw [(inF_look h1).2, (inF_look h2).2] at h4
    rw [h4]
    exact small _ (.inl (by decide +kernel))
  · rw [if_neg hw] at hx
    have hJ := addF_ok hw hF hG (by show 1 + 1 ≤ 9; decide) (by show 1 + 1 ≤ 48; decide)
    have e := mem_look (k := x.1) (v := x.2) hJ.nd hx
    rcases (addF_look hw hF hG).mp e with ⟨_, h⟩ | ⟨b, y, _, _, h1, h2⟩ | ⟨_, h1, _, h2⟩
    · exact small _ (.inl (inF_look h).2)
    · rw [(inF_look h1).2] at h2
      rw [h2]
      cases w with
      | mul => exact absurd rfl hw
      | add => exact small _ (.inl (by decide +kernel))
      | sub => exact small _ (.inr (by decide +kernel))
    · exfalso
      apply h1
      rw [h2]
      have z1 : glook (inF i).2 [] = none := rfl
      have z2 : glook (inF j).2 [] = none := rfl
      rw [z1, z2]
      cases w with
      | mul => exact absurd rfl hw
      | add => decide +kernel
      | sub => decide +kernel
end Zk

-- part ZA5
namespace Zk
open PySem PySem.Spec PyProof.Rows L2 Zb Zr Zm RZ
def A_number : CA := fun _ ss P => ∃ q, ss = [.dat (qD q)] ∧ P = fun s => s = .dat (fmD (numF q))
/-- what a line's form has to be -/
def fLn (n : Nat) (Fs : List Fm) : Ln → List Nat × Option Qt
  | .num q => ([], some q)
  | .op w a b => cop w (fC n (Fs.getD a ([], []))) (fC n (Fs.getD b ([], [])))
def Easy (n : Nat) (Fs : List Fm) (l : Ln) : Prop := ∃ w a b i j, l = .op w a b ∧ i < n ∧ j < n ∧ Fs.getD a ([], []) = inF i ∧ Fs.getD b ([], []) = inF j
def A_form : CA := fun _ ss P => ∃ (n : Nat) (l : Ln) (p : Addr) (Fs : List Fm), ss = [.dat (lD l), .lst p (Fs.map fmD)] ∧ n ≤ 8 ∧ LnOk Fs.length l ∧ (∀ F ∈ Fs, FI n 100 F) ∧ P = fun s => (s = .dat .non ∧ ¬ Easy n Fs l) ∨ ∃ F, FI n 100 F ∧ fC n F = fLn n Fs l ∧ s = .dat (fmD F)
def A_stand : CA := fun _ ss P => ∃ (n : Nat) (F : Fm), ss = [.dat (nD n), .dat (fmD F)] ∧ n ≤ 8 ∧ FI n 100 F ∧ P = fun s => s = .dat (loD (stand n F))
section
variable {r : Option Addr} {K : PySem.W.Frag} {G : List Sl} {σ : L2.St} {H : Hp} {te tv : TE} {j : Nat}
theorem q_setLV {P : List D → Prop} {u : TS} {D' : Ends} {i : Nat} (e : En r H σ G) (h : El r te G P) (k : ∀ p ds H', H p = none → some p ≠ r → P ds → Kp r H H' → Ls H' p ds → u D' (σ.set i (some (.ref p))) H') : tSeq (tAsg te (gName i)) u D' σ H :=
  h σ H e _ fun p H2 ds hp np k2 hl pd => k p ds H2 hp np pd k2 hl
theorem ed_dnew : Ed r tDNewT G (.dct []) := fun σ H e Q q p hp => q (.ref p) _ _ (Kp.new hp) (.dat (.dct (.inl upd_same) .nil)) rfl
theorem el_lstI {a : Addr} {ds : List D} {wv : Nat → D} (h : Ev r te G (fun x => x = .lst a ds)) (hn : ds.length < 100000) (hv : ∀ (i : Nat) (d : D), ds[i]? = some d → Ed r tv (G.set j (.dat d)) (wv i)) :
    El r (tLc (iList K te) (gName j) tYes tv [j]) G (fun es => es = (List.range ds.length).map wv) := fun σ H e Q q => by
  refine h σ H e _ fun x Hb s k2 sv p => ?_
  subst p
  cases sv with
  | lst n hls =>
    obtain ⟨xs, ha, hds⟩ := hls
    have hlen := hds.length
    have e2 := e.mono k2
    refine ⟨a, rfl, ⟨xs, SqL.of ha⟩, fun A hA => ?_⟩
    have nA : some A ≠ r := fresh_rk e2.rk hA
    refine lc_list (K := K) (a := a) (xs := xs) (fun i H' => Cw r σ G Hb A ((List.range i).map wv) H') (Cw.start e2 hA) (fun i H' _ c => SqL.of (c.k.lst a xs n ha)) (fun i x H' hx c => ?_) (fun H' c => ?_)
    · obtain ⟨d, hd1, hd2⟩ := hds.getV hx
      have e3 : En r H' ((wipe σ [j]).set j (some x)) (G.set j (.dat d)) := c.e.comp (.dat (c.k.dt hd2))
      have hi := (List.getElem?_eq_some_iff.mp hx).1
      refine ⟨wipe_back σ j _, ?_⟩
      refine tYes_ite ?_
      refine hv i d hd1 _ H' e3 _ fun y H4 s k4 sy ps => ?_
      subst ps
      have := Cw.more hA e2 c k4 sy.d (by rw [List.length_map, List.length_range]; omega)
      rw [List.range_succ, List.map_append]
      exact this
    · rw [hlen] at c
      exact q A H' _ (k2.fresh hA) nA (k2.trans c.k) c.l rfl
end
theorem tm0 : tmD [] = [] := rfl
section
variable {P : Program} {w : World} {K : PySem.W.Frag} {mg : Str → Option Value} {base : Heap} (T : Txt K mg)
include T
theorem ok_law_number : Cl P w K mg base 1 "_law_number" (Con 1 A_number) := by
  refine mkCl T.d_law_number sc_law_number (fun _ _ _ _ _ _ us hl => match us, hl with | [_], _ => rfl) Con.len (fun f cdv A outer s H vs Q E hr h => ?_)
  obtain ⟨r, ss, PP, hl, ⟨q, rfl, rfl⟩, hv, rk, hq⟩ := h
  have en := En.start (N := ["_law_quotient_here"]) hv rk
  have hu := hu_of hr
  refine ⟨_, (pss_cons (ps_if (pt_cmpR op_eq (pe_ix (r := rIxT K) ix_tup (pv 0) pe_int (fun _ _ => rfl)) pe_int (nomark _)) (pss_one (ps_ret (pe_tup (pa_cons (pe_tup pa_nil) (pa_cons pe_dnewT pa_nil))))) pss_nil) (pss_one (ps_ret (pe_tup (pa_cons (pe_tup pa_nil) (pa_cons (pe_disp1 hu (pe_tup pa_nil) (pv 0)) pa_nil)))))), ?_⟩
  refine q_if0 en (eb_test (ed_eqI (ed_ix0 (d := .int q.1) (ds := [.int q.2]) (ed_var rfl)) ed_int)) (fun hb H1 en k1 => ?_) fun hb H1 en k1 => ?_
  · refine s_ret en (ed_tup (ds := [loD [], .dct []]) (ea_cd ed_t0 (ea_cd ed_dnew ea_n))) fun v H' s k sv p => hq v H' s (k1.trans k) sv ?_
    rw [p]
    unfold numF
    rw [if_pos (of_decide_eq_true hb)]
    rfl
  · refine s_ret en (ed_tup (ds := [loD [], .dct [([], qD q)]]) (ea_cd ed_t0 (ea_cd (ed_disp1 (k := []) (es_tup (ds := []) esa_nil) (es_var rfl) rfl) ea_n))) fun v H' s k sv p => hq v H' s (k1.trans k) sv ?_
    rw [p]
    unfold numF
    rw [if_neg (of_decide_eq_false hb)]
    rfl
theorem ok_law_stand : Cl P w K mg base 1 "_law_stand" (Con 2 A_stand) := by
  refine mkCl T.d_law_stand sc_law_stand (fun _ _ _ _ _ _ us hl => match us, hl with | [_, _], _ => rfl) Con.len (fun f cdv A outer s H vs Q E hr h => ?_)
  obtain ⟨r, ss, PP, hl, ⟨n, F, rfl, n8, hF, rfl⟩, hv, rk, hq⟩ := h
  have en := En.start (N := ["_law_size", "_law_form_here", "_law_there", "_law_bundle", "_law_copy", "_law_which"]) hv rk
  refine ⟨_, (pss_cons (ps_set (i := 2) sc_law_stand.nd rfl (Or.inr rfl) (pe_lc (own := [("_law_which", 5)]) (g := gName 5) rfl sc_law_stand.nd (pi_range1 rfl T.b_range (pa_cons (pv 0) pa_nil)) (blkOk_by (own := [("_law_which", 5)]) (N := ["_law_size", "_law_form_here", "_law_there", "_law_bundle", "_law_copy", "_law_which"]) (sc := defScope s_law_stand) (by decide +kernel)) (fun _ _ _ _ _ => pg_name (i := 5) sc_law_stand.nd rfl (Or.inl rfl)) (fun _ _ _ _ _ => pts_nil) (fun _ _ _ _ _ => pe_bl))) (pss_cons (ps_lockO (ps_for PassesOwn.never rfl (pi_keys (pe_ix (r := rIxT K) ix_tup (pv 1) pe_int (fun _ _ => rfl))) (pg_name (i := 3) sc_law_stand.nd rfl (Or.inl rfl)) (pss_one (ps_for PassesOwn.never rfl (pi_tup (pv 3)) (pg_name (i := 4) sc_law_stand.nd rfl (Or.inl rfl)) (pss_one (ps_asg pe_bl (pg_sub (pv 2) (pe_ix (r := rIxT K) ix_tup (pe_ix (r := rIxT K) ix_tup (pv 1) pe_int (fun _ _ => rfl)) (pv 4) (fun _ _ => rfl)) set_list))))))) (pss_one (ps_ret (pe_tupleOf rfl T.b_tuple (pe_lc (own := [("_law_which", 5)]) (g := gName 5) rfl sc_law_stand.nd (pi_range1 rfl T.b_range (pa_cons (pv 0) pa_nil)) (blkOk_by (own := [("_law_which", 5)]) (N := ["_law_size", "_law_form_here", "_law_there", "_law_bundle", "_law_copy", "_law_which"]) (sc := defScope s_law_stand) (by decide +kernel)) (fun _ _ _ _ _ => pg_name (i := 5) sc_law_stand.nd rfl (Or.inl rfl)) (fun _ _ _ _ _ => (pts_one (pt_val (pe_ix (r := rIxL K) ix_list (pv 2) (pv 5) (fun _ _ => rfl))))) (fun _ _ _ _ _ => (pv 5)))))))), ?_⟩
  obtain ⟨v1, g1, s1⟩ := en.get (i := 1) rfl (by intro z; cases z)
  have d1 := s1.d
  refine q_setLV en (el_rng1 (n := n) (f := fun _ => true) (v := fun _ => D.bl false) (ea_c (ed_var rfl) ea_nil) (by omega) (fun i _ => eb_yes) (fun i _ _ => ed_bl)) fun p ds H2 hp np pd k2 hls => ?_
  have ed0 : ds = blD n fun _ => false := by
    rw [pd, compL_all]
    rfl
  subst ed0
  have en2 := (en.mono k2).set 2 (v := .ref p) (s := .lst p (blD n fun _ => false)) (.lst np hls)
  have g1' : ((L2.start ["_law_size", "_law_form_here", "_law_there", "_law_bundle", "_law_copy", "_law_which"] vs).set 2 (some (.ref p)))[1]? = some (some v1) := by
    rw [List.getElem?_set_ne (by decide)]
    exact g1
  generalize (L2.start ["_law_size", "_law_form_here", "_law_there", "_law_bundle", "_law_copy", "_law_which"] vs).set 2 (some (.ref p)) = σ2 at en2 g1'
  refine q_seq (l_keys (H0 := H) (c := loD F.1) (ds := tmD F.2) en2 g1' d1 k2 (fun k σ' H' => ∃ g, (∀ w, w < n → (g w = true ↔ ∃ x ∈ F.2.take k, ∃ c ∈ x.1, F.1.getD c 0 = w)) ∧ En r H' σ' [.dat (nD n), .dat (fmD F), .lst p (blD n g), .any, .any, .any] ∧ σ'[1]? = some (some v1)) (fun HL kw hsm en => ⟨_, fun w hw => ?_, en, g1'⟩) (fun HB k b d v σ' H' R B kw hn kp hd hdt ⟨g, hg, en, gv⟩ hR => ?_) fun σ' H' H'' ⟨g, hg, en, gv⟩ hsm kw kp => ?_)
  · rw [List.take_zero]
    constructor
    · intro z
      cases z
    · rintro ⟨x, hx, _⟩
      cases hx
  · obtain ⟨x, hx1, hx2⟩ := getE_map hd
    cases hx2
    have hlk := mem_look (k := x.1) (v := x.2) hF.nd (List.mem_of_getElem? hx1)
    have hval := hF.val _ _ hlk
    have en3 := en.set 3 (.dat hdt)
    have gv3 : (σ'.set 3 (some v))[1]? = some (some v1) := by
      rw [List.getElem?_set_ne (by decide)]
      exact gv
    generalize σ'.set 3 (some v) = σ3 at en3 gv3
    refine l_tup (ds := x.1.map nD) en3 (ed_var rfl) (fun Hb t σ' H' => ∃ g', (∀ w, w < n → (g' w = true ↔ (g w = true ∨ ∃ c ∈ x.1.take t, F.1.getD c 0 = w))) ∧ En r H' σ' [.dat (nD n), .dat (fmD F), .lst p (blD n g'), .dat (loD x.1), .any, .any] ∧ σ'[1]? = some (some v1) ∧ Kp r HB H' ∧ Kx Hb H') (fun Hb en k => ⟨g, fun w hw => ?_, en, gv3, kp.trans k, Kx.refl _⟩) (fun Hb i σ' H' ⟨_, _, _, _, _, k⟩ => k) (fun Hb t d v' σ' H' kb hd hdt ⟨g', hg', en, gv, kp, kx⟩ => ?_) fun Hb σ' H' kb ⟨g', hg', en, gv, kp, kx⟩ => ?_
    · rw [List.take_zero]
      constructor
      · exact .inl
      · rintro (z | ⟨c, hc, _⟩)
        · exact z
        · cases hc
    · obtain ⟨c, hc1, rfl⟩ := getE_map hd
      have hcl := hval.2.2.2.1 c (List.mem_of_getElem? hc1)
      have hcn := hF.cp _ (getD_mem (d := 0) hcl)
      have en4 := en.set 4 (.dat hdt)
      have gv4 : (σ'.set 4 (some v'))[1]? = some (some v1) := by
        rw [List.getElem?_set_ne (by decide)]
        exact gv
      refine s_setIx en4 rfl (m := F.1.getD c 0) ed_bl (ed_ixT (ds := F.1.map nD) (ed_ix0 (ds := [.dct (tmD F.2)]) (ed_var rfl)) (ed_var rfl) (get_map (f := nD) (d := 0) hcl)) (by rw [blD_len]; exact hcn) (by simp [noAl]) kp (hn p hp) fun H10 en k10 kx10 => ?_
      rw [blD_set] at en
      refine ⟨_, fun w hw => ?_, En.drops [4] en, gv4, k10, kx.trans kx10⟩
      rw [take_snoc hc1, Bool.or_eq_true, decide_eq_true_eq, hg' w hw]
      constructor
      · rintro (z | z | ⟨c', h1, h2⟩)
        · exact .inr ⟨c, List.mem_append_right _ (List.mem_cons_self ..), z.symm⟩
        · exact .inl z
        · exact .inr ⟨c', List.mem_append_left _ h1, h2⟩
      · rintro (z | ⟨c', h1, h2⟩)
        · exact .inr (.inl z)
        · rcases List.mem_append.mp h1 with h1 | h1
          · exact .inr (.inr ⟨c', h1, h2⟩)
          · rw [List.mem_singleton.mp h1] at h2
            exact .inl h2.symm
    · rw [List.length_map, List.take_length] at hg'
      refine ⟨kp, g', fun w hw => ?_, En.drops [3] en, gv⟩
      rw [hg' w hw, hg w hw, take_snoc hx1]
      constructor
      · rintro (⟨y, h1, h2⟩ | h)
        · exact ⟨y, List.mem_append_left _ h1, h2⟩
        · exact ⟨x, List.mem_append_right _ (List.mem_cons_self ..), h⟩
      · rintro ⟨y, h1, h2⟩
        rcases List.mem_append.mp h1 with h1 | h1
        · exact .inl ⟨y, h1, h2⟩
        · rw [List.mem_singleton.mp h1] at h2
          exact .inr h2
  · rw [tm_len, List.take_length] at hg
    refine s_ret (D' := { nx := _, rt := Q }) (en.monoW kw) (ed_tupOf (el_rng1 (n := n) (f := g) (v := nD) (ea_c (ed_var rfl) ea_nil) (by omega) (fun i hi => eb_B (ed_ixL (ev_var rfl) (ed_var rfl) (blD_get hi))) fun i _ _ => ed_var rfl)) fun v H2 s k3 sv e => hq v H2 s (kp.trans k3) sv ?_
    rw [e]
    unfold compL loD
    congr 3
    unfold stand
    apply List.filter_congr
    intro w hw
    rw [List.mem_range] at hw
    rw [Bool.eq_iff_iff, hg w hw, List.any_eq_true]
    constructor
    · rintro ⟨x, h1, c, h2, h3⟩
      exact ⟨x, h1, List.any_eq_true.mpr ⟨c, h2, by simpa using h3⟩⟩
    · rintro ⟨x, h1, h2⟩
      obtain ⟨c, h3, h4⟩ := List.any_eq_true.mp h2
      exact ⟨x, h1, c, h3, of_decide_eq_true h4⟩
theorem ok_law_form (c_law_number : Cl P w K mg base 1 "_law_number" (Con 1 A_number)) (c_law_joined : Cl P w K mg base 3 "_law_joined" (Con 3 A_joined)) : Cl P w K mg base 4 "_law_form" (Con 2 A_form) := by
  refine mkCl T.d_law_form sc_law_form (fun _ _ _ _ _ _ us hl => match us, hl with | [_, _], _ => rfl) Con.len (fun f cdv A outer s H vs Q E hr h => ?_)
  obtain ⟨r, ss, PP, hl, ⟨n, l, p, Fs, rfl, n8, hok, hFs, rfl⟩, hv, rk, hq⟩ := h
  have en := En.start (N := ["_law_line_here", "_law_forms", "_law_one", "_law_other", "_law_joined_here", "_law_bundle"]) hv rk
  have hu := hu_of hr
  refine ⟨_, (pss_cons (ps_if (pt_cmpR op_eq (pe_ix (r := rIxT K) ix_tup (pv 0) pe_int (fun _ _ => rfl)) pe_str (nomark _)) (pss_one (ps_ret (pe_cl c_law_number hr (by decide) rfl (pa_cons (pe_ix (r := rIxT K) ix_tup (pv 0) pe_int (fun _ _ => rfl)) pa_nil)))) pss_nil) (pss_cons (ps_par (i := 2) (j := 3) rfl sc_law_form.nd rfl rfl (by decide) rfl rfl (pa_cons (pe_ix (r := rIxL K) ix_list (pv 1) (pe_ix (r := rIxT K) ix_tup (pv 0) pe_int (fun _ _ => rfl)) (fun _ _ => rfl)) (pa_cons (pe_ix (r := rIxL K) ix_list (pv 1) (pe_ix (r := rIxT K) ix_tup (pv 0) pe_int (fun _ _ => rfl)) (fun _ _ => rfl)) pa_nil)) (by rfl)) (pss_cons (ps_if (PW.pt (pw_or (pt_cmpR op_gt (pe_op op_add (pe_callB (r := cLen K) call_len_seq (by rfl) T.b_len (by decide +kernel) (pa_cons (pe_ix (r := rIxT K) ix_tup (pv 2) pe_int (fun _ _ => rfl)) pa_nil)) (pe_callB (r := cLen K) call_len_seq (by rfl) T.b_len (by decide +kernel) (pa_cons (pe_ix (r := rIxT K) ix_tup (pv 3) pe_int (fun _ _ => rfl)) pa_nil))) pe_int (nomark _)) (pw_or (pt_cmpR op_gt (pe_op op_add (pe_callB call_lenDT (by rfl) T.b_len (by decide +kernel) (pa_cons (pe_ix (r := rIxT K) ix_tup (pv 2) pe_int (fun _ _ => rfl)) pa_nil)) (pe_callB call_lenDT (by rfl) T.b_len (by decide +kernel) (pa_cons (pe_ix (r := rIxT K) ix_tup (pv 3) pe_int (fun _ _ => rfl)) pa_nil))) pe_int (nomark _)) (pw_or1 (pt_cmpR op_gt (pe_op op_mulX (pe_callB call_lenDT (by rfl) T.b_len (by decide +kernel) (pa_cons (pe_ix (r := rIxT K) ix_tup (pv 2) pe_int (fun _ _ => rfl)) pa_nil)) (pe_callB call_lenDT (by rfl) T.b_len (by decide +kernel) (pa_cons (pe_ix (r := rIxT K) ix_tup (pv 3) pe_int (fun _ _ => rfl)) pa_nil))) pe_int (nomark _)))))) (pss_one (ps_ret pe_non)) pss_nil) (pss_cons (ps_set (i := 4) sc_law_form.nd rfl (Or.inl rfl) (pe_cl c_law_joined hr (by decide) rfl (pa_cons (pv 0) (pa_cons (pv 2) (pa_cons (pv 3) pa_nil))))) (pss_cons (ps_lockO (ps_for PassesOwn.never rfl (pi_keys (pe_ix (r := rIxT K) ix_tup (pv 4) pe_int (fun _ _ => rfl))) (pg_name (i := 5) sc_law_form.nd rfl (Or.inl rfl)) (pss_one (ps_if (PW.pt (pw_or (pt_cmpR op_gt (pe_callB call_abs (by rfl) T.b_abs (by decide +kernel) (pa_cons (pe_ix (r := rIxT K) ix_tup (pe_dget hu (pe_ix (r := rIxT K) ix_tup (pv 4) pe_int (fun _ _ => rfl)) (pv 5) (fun _ _ => rfl)) pe_int (fun _ _ => rfl)) pa_nil)) (pe_op op_pow pe_int pe_int) (nomark _)) (pw_or1 (pt_cmpR op_gt (pe_ix (r := rIxT K) ix_tup (pe_dget hu (pe_ix (r := rIxT K) ix_tup (pv 4) pe_int (fun _ _ => rfl)) (pv 5) (fun _ _ => rfl)) pe_int (fun _ _ => rfl)) (pe_op op_pow pe_int pe_int) (nomark _))))) (pss_one (ps_ret pe_non)) pss_nil)))) (pss_one (ps_ret (pv 4)))))))), ?_⟩
  cases l with
  | num x =>
    refine q_take en ((eb_test (ed_eqS (ed_ix0 (ds := [qD x]) (ed_var rfl)) ed_str)).is (by decide +kernel)) fun H1 en k1 => ?_
    refine s_ret en (ev_call' (ss := [.dat (qD x)]) (ea_c (ed_ix1 (c := .str "num") (ds := []) (ed_var rfl)) ea_nil) ⟨x, rfl, rfl⟩) fun v H' s k sv p => hq v H' s (k1.trans k) sv ?_
    have := numF_ok (n := n) (show QSm x from hok)
    exact .inr ⟨_, this.1, this.2, p⟩
  | op wd a b =>
    refine q_pass en ((eb_test (ed_eqS (ed_ix0 (ds := [nD a, nD b]) (ed_var rfl)) ed_str)).is (by cases wd <;> decide +kernel)) fun H1 en k1 => ?_
    have ga : (Fs.map fmD)[a]? = some (fmD (Fs.getD a ([], []))) := get_map hok.1
    have gb : (Fs.map fmD)[b]? = some (fmD (Fs.getD b ([], []))) := get_map hok.2
    have hF := hFs _ (getD_mem (d := (([], []) : Fm)) hok.1)
    have hG := hFs _ (getD_mem (d := (([], []) : Fm)) hok.2)
    refine q_par (s1 := .dat (fmD (Fs.getD a ([], [])))) (s2 := .dat (fmD (Fs.getD b ([], [])))) en (ea_c (ed_ixL (ev_var rfl) (ed_ix1 (c := .str (wS wd)) (d := nD a) (ds := [nD b]) (ed_var rfl)) ga) (ea_c (ed_ixL (ev_var rfl) (ed_ix2 (b := .str (wS wd)) (c := nD a) (d := nD b) (ds := []) (ed_var rfl)) gb) ea_nil)) fun σ2 H2 en k2 => ?_
    have hE : Easy n Fs (.op wd a b) → ∃ i j, i < n ∧ j < n ∧ Fs.getD a ([], []) = inF i ∧ Fs.getD b ([], []) = inF j := fun ⟨w', a', b', i, j, e, hi, hj, e1, e2⟩ => by
      cases e
      exact ⟨i, j, hi, hj, e1, e2⟩
    have hL : fLn n Fs (.op wd a b) = cop wd (fC n (Fs.getD a ([], []))) (fC n (Fs.getD b ([], []))) := rfl
    rw [hL] at hq
    clear hL
    generalize Fs.getD a ([], []) = F at *
    generalize Fs.getD b ([], []) = G at *
    replace k2 := k1.trans k2
    have lenc : ∀ {r : Option Addr} {G' : List Sl} {te : TE} {F : Fm}, Ed r te G' (fmD F) → Ed r (tCB (cLen K) (tCons (tOp (rIxT K) te (tC (.int 0))) tNil)) G' (.int (F.1.length : Nat)) := fun h => Ed.is (ed_lenT (ed_ix0 (ds := [.dct (tmD _)]) h)) (by rw [List.length_map])
    have lent : ∀ {r : Option Addr} {G' : List Sl} {te : TE} {F : Fm}, Ed r te G' (fmD F) → Ed r (tCB rLenD (tCons (tOp (rIxT K) te (tC (.int 1))) tNil)) G' (.int (F.2.length : Nat)) := fun h => Ed.is (ed_lenD (ed_ix1 (c := loD _) (ds := []) h)) (by rw [tm_len])
    have f9 := hF.cl
    have g9 := hG.cl
    have f48 := hF.tl
    have g48 := hG.tl
    refine q_if0 en (eb_or (eb_test (ed_c (f := fun i j => decide (i > j)) (ed_i (f := fun i j => i + j) (lenc (ed_var rfl)) (lenc (ed_var rfl))) ed_int)) fun _ => eb_or (eb_test (ed_c (f := fun i j => decide (i > j)) (ed_i (f := fun i j => i + j) (lent (ed_var rfl)) (lent (ed_var rfl))) ed_int)) fun _ => eb_test (ed_c (f := fun i j => decide (i > j)) (ed_iC (f := fun i j => i * j) (lent (ed_var rfl)) (lent (ed_var rfl)) (mulx_ok (a := 64) (b := 64) (by rw [Int.natAbs_natCast]; omega) (by rw [Int.natAbs_natCast]; omega) (by decide))) ed_int)) (fun hb H3 en k3 => ?_) fun hb H3 en k3 => ?_
    · refine s_ret en ed_non fun v H' s k sv p => hq v H' s ((k2.trans k3).trans k) sv (.inl ⟨p, fun he => ?_⟩)
      obtain ⟨i, j, hi, hj, e1, e2⟩ := hE he
      subst e1 e2
      exact absurd hb (show ¬ (decide (((1 : Nat) : Int) + ((1 : Nat) : Int) > 9) || (decide (((1 : Nat) : Int) + ((1 : Nat) : Int) > 48) || decide (((1 : Nat) : Int) * ((1 : Nat) : Int) > 48))) = true by decide)
    · rw [Bool.or_eq_false_iff, Bool.or_eq_false_iff] at hb
      have b1 := of_decide_eq_false hb.1
      have b2 := of_decide_eq_false hb.2.1
      have b3 := of_decide_eq_false hb.2.2
      have c1 : F.1.length + G.1.length ≤ 9 := by omega
      have c2 : F.2.length + G.2.length ≤ 48 := by omega
      have c3 : F.2.length * G.2.length ≤ 48 := by
        have : ((F.2.length * G.2.length : Nat) : Int) ≤ 48 := by
          rw [Int.natCast_mul]
          omega
        omega
      obtain ⟨hJ, hJC⟩ := joinF_ok n8 (w := wd) hF hG c1 c2 c3
      have hJeasy : Easy n Fs (.op wd a b) → ∀ x ∈ (joinF wd F G).2, (x.2.1.natAbs : Int) ≤ T30 ∧ x.2.2 ≤ T30 := fun he => by
        obtain ⟨i, j, hi, hj, e1, e2⟩ := hE he
        subst e1 e2
        exact easy hi hj wd
      refine q_setV (d := fmD (joinF wd F G)) en (ev_call' (ss := [.dat (lD (.op wd a b)), .dat (fmD F), .dat (fmD G)]) (ea_c (ed_var rfl) (ea_c (ed_var rfl) (ea_c (ed_var rfl) ea_nil))) ⟨n, wd, a, b, F, G, rfl, hF, hG, c1, c2, c3, rfl⟩) fun v4 H4 k4 sv4 => ?_
      generalize joinF wd F G = J at *
      have en4 := (en.mono k4).set 4 (.dat sv4)
      have g4 : (σ2.set 4 (some v4))[4]? = some (some v4) := by
        have : σ2.length = 6 := en.sl.length
        rw [List.getElem?_set_self (by rw [this]; decide)]
      generalize σ2.set 4 (some v4) = σ4 at en4 g4
      replace k4 := (k2.trans k3).trans k4
      refine q_seq (l_keys (H0 := H4) (c := loD J.1) (ds := tmD J.2) en4 g4 sv4 (Kp.refl r H4) (fun k σ' H' => (∀ x ∈ J.2.take k, (x.2.1.natAbs : Int) ≤ T30 ∧ x.2.2 ≤ T30) ∧ En r H' σ' [.dat (lD (.op wd a b)), .lst p (Fs.map fmD), .dat (fmD F), .dat (fmD G), .dat (fmD J), .any]) (fun HL kw hsm en => ⟨fun x hx => (by rw [List.take_zero] at hx; cases hx), en⟩) (fun HB k b' d v σ' H' R B kw hn kp hd hdt ⟨hall, en⟩ hR => ?_) fun σ' H' H'' ⟨hall, en⟩ hsm kw kp => ?_)
      · obtain ⟨x, hx1, hx2⟩ := getE_map hd
        cases hx2
        have hlk := mem_look (k := x.1) (v := x.2) hJ.nd (List.mem_of_getElem? hx1)
        have hpos : 0 < x.2.2 := (hJ.val _ _ hlk).1.1
        have en5 := en.set 5 (.dat hdt)
        have ex : ∀ {r : Option Addr} {G' : List Sl}, G'[4]? = some (.dat (fmD J)) → G'[5]? = some (.dat (loD x.1)) → Ed r (tDGet (tOp (rIxT K) (tVar 4) (tC (.int 1))) (tVar 5)) G' (.tup [.int x.2.1, .int x.2.2]) := fun h1 h2 => ed_dget (ds := tmD J.2) (k := x.1) (ed_ix1 (c := loD J.1) (ds := []) (ed_var h1)) (ed_var h2) (by rw [dlook_tm, hlk]; rfl)
        have e30 : ∀ {r : Option Addr} {G' : List Sl}, Ed r (tOp (rI CPow fun i j => .int (i ^ j.toNat)) (tC (.int 10)) (tC (.int 30))) G' (.int T30) := fun {r G'} => ed_iC (f := fun i j => i ^ j.toNat) ed_int ed_int ⟨by decide, by decide, by decide⟩
        refine s_ifB en5 (eb_or (eb_test (ed_c (f := fun i j => decide (i > j)) (ed_abs (ed_ix0 (ex rfl rfl))) e30)) fun _ => eb_test (ed_c (f := fun i j => decide (i > j)) (ed_ix1 (ex rfl rfl)) e30)) (fun hb H6 en k6 => ?_) fun hb H6 en k6 => ?_
        · refine hR .non H6 (.dat .non) (kp.trans k6) (.dat .non) fun H3' k3' sv3' => hq _ _ _ (k4.trans k3') sv3' (.inl ⟨rfl, fun he => ?_⟩)
          have := hJeasy he x (List.mem_of_getElem? hx1)
          rw [Bool.or_eq_true] at hb
          rcases hb with hb | hb
          · have := of_decide_eq_true hb
            omega
          · have := of_decide_eq_true hb
            omega
        · refine ⟨kp.trans k6, fun y hy => ?_, En.drops [5] en⟩
          rw [take_snoc hx1] at hy
          rcases List.mem_append.mp hy with h | h
          · exact hall y h
          · rw [List.mem_singleton.mp h]
            rw [Bool.or_eq_false_iff] at hb
            have h1 := of_decide_eq_false hb.1
            have h2 := of_decide_eq_false hb.2
            omega
      · rw [tm_len, List.take_length] at hall
        refine s_ret (D' := { nx := _, rt := Q }) (en.monoW kw) (ed_var rfl) fun v H2 s k5 sv e => hq v H2 s ((k4.trans kp).trans k5) sv (.inr ⟨J, hJ.small hall, hJC, e⟩)
end
end Zk

-- part ZA6
namespace Zk
open PySem PySem.Spec PyProof.Rows L2 Zb Zr Zm RZ
def A_gen9 : CA := fun r ss P => ∃ (a : Addr) (n m : Nat), r = some a ∧ ss = [.row a, .dat (nD n), .dat (nD m)] ∧ 1 ≤ n ∧ n ≤ 8 ∧ 1 ≤ m ∧ m ≤ 9 ∧ P = fun s => ∃ ls s1 s2 s3, PrOk n ls ∧ s = .tl [.dat (lsD ls), s1, s2, s3] ∧ ∃ p q u, s1 = .lst p ((call n ls).1.map loD) ∧ s2 = .lst q ((call n ls).2.map oD) ∧ s3 = .lst u (blD (n + ls.length) (nzf n ls))
def tTru (K : PySem.W.Frag) (ta : TE) : TT := fun σ H Q => ta σ H fun x H' => ∃ k, TruV K x H' k ∧ Q k H'
theorem pt_truthK {X : Cx} {K : PySem.W.Frag} {a : Expr} {ta : TE} (hK : X.K = K) (ha : PE X a ta) (he : ∀ whole, isTrue a X.env whole = (do let v ← whole; standAt a.pos; holding [v] (truthy v))) : PT X a (tTru K ta) := by
  subst hK
  exact pt_truth ha he
structure SF (n : Nat) (ls : List Ln) (Fs : List Fm) : Prop where
  len : Fs.length = n + ls.length
  ok : ∀ F ∈ Fs, FI n 100 F
  cs : ∀ i, i < n + ls.length → fC n (Fs.getD i ([], [])) = (call n ls).at i
  ins : ∀ j, j < n → Fs.getD j ([], []) = inF j
theorem sf0 (n : Nat) : SF n [] ((List.range n).map inF) := by
  have g : ∀ j, j < n → ((List.range n).map inF).getD j ([], []) = inF j := fun j hj => by
    rw [List.getD_eq_getElem?_getD, List.getElem?_map, List.getElem?_range hj]
    rfl
  refine ⟨by simp, fun F hF => ?_, fun i hi => ?_, g⟩
  · obtain ⟨j, hj, rfl⟩ := List.mem_map.mp hF
    exact (inF_ok (List.mem_range.mp hj)).1
  · rw [g i hi, (inF_ok (show i < n from hi)).2]
    show _ = (c0 n).at i
    rw [c0_at (show i < n from hi)]
theorem SF.step {n : Nat} {ls : List Ln} {Fs : List Fm} (h : SF n ls Fs) (n8 : n ≤ 8) (hr : Rn n ls) {l : Ln} (hl : LnOk (n + ls.length) l) {F : Fm} (hF : FI n 100 F) (hC : fC n F = fLn n Fs l) : SF n (ls ++ [l]) (Fs ++ [F]) := by
  have hc := ci hr n8
  have e : fLn n Fs l = cst (call n ls) l := by
    cases l with
    | num q => rfl
    | op w a b =>
      show cop w _ _ = cop w _ _
      rw [h.cs a hl.1, h.cs b hl.2]
  refine ⟨by rw [List.length_append, List.length_append, h.len, List.length_singleton, List.length_singleton, Nat.add_assoc], fun G hG => ?_, fun i hi => ?_, fun j hj => ?_⟩
  · rcases List.mem_append.mp hG with z | z
    · exact h.ok G z
    · rw [List.mem_singleton.mp z]
      exact hF
  · rw [call_snoc]
    rw [List.length_append, List.length_singleton] at hi
    rcases Nat.lt_or_ge i (n + ls.length) with hi' | hi'
    · rw [getD_app_left (by rw [h.len]; exact hi'), cend_old hc hi']
      exact h.cs i hi'
    · have ei : i = n + ls.length := by omega
      subst ei
      rw [cend_new hc, ← e, ← hC]
      have : (Fs ++ [F]).getD (n + ls.length) ([], []) = F := by
        rw [← h.len]
        exact getD_app_last
      rw [this]
  · rw [getD_app_left (by rw [h.len]; omega)]
    exact h.ins j hj
def Pf (n : Nat) (Fs : List Fm) (l : Ln) (d : D) : Prop := (d = .non ∧ ¬ Easy n Fs l) ∨ ∃ F, FI n 100 F ∧ fC n F = fLn n Fs l ∧ d = fmD F
section
variable {P : Program} {w : World} {K : PySem.W.Frag} {mg : Str → Option Value} {base : Heap} (T : Txt K mg)
include T
theorem ok_law_short (c_law_line : Cl P w K mg base 3 "_law_line" (Con 3 A_line)) (c_law_plainer : Cl P w K mg base 2 "_law_plainer" (Con 3 A_plainer)) (c_law_form : Cl P w K mg base 4 "_law_form" (Con 2 A_form)) (c_law_stand : Cl P w K mg base 1 "_law_stand" (Con 2 A_stand)) : Cl P w K mg base 5 "_law_short" (Con 3 A_gen9) := by
  refine mkCl T.d_law_short sc_law_short (fun _ _ _ _ _ _ us hl => match us, hl with | [_, _, _], _ => rfl) Con.len (fun f cdv A outer s H vs Q E hr h => ?_)
  obtain ⟨r, ss, PP, hl, ⟨a, n, m, rfl, rfl, n1, n8, m1, m9, rfl⟩, hv, rk, hq⟩ := h
  have en := En.start (N := ["_law_row_here", "_law_size", "_law_many", "_law_lines", "_law_forms", "_law_k", "_law_line_here", "_law_form_here", "_law_lots", "_law_numbers", "_law_at", "_law_which", "_law_place_here"]) hv rk
  have hu := hu_of hr
  refine ⟨_, (pss_cons (ps_asg (pe_tup (pa_cons (pe_tup pa_nil) (pa_cons (pe_lc (own := [("_law_which", 11)]) (g := gName 11) rfl sc_law_short.nd (pi_range1 rfl T.b_range (pa_cons (pv 1) pa_nil)) (blkOk_by (own := [("_law_which", 11)]) (N := ["_law_row_here", "_law_size", "_law_many", "_law_lines", "_law_forms", "_law_k", "_law_line_here", "_law_form_here", "_law_lots", "_law_numbers", "_law_at", "_law_which", "_law_place_here"]) (sc := defScope s_law_short) (by decide +kernel)) (fun _ _ _ _ _ => pg_name (i := 11) sc_law_short.nd rfl (Or.inl rfl)) (fun _ _ _ _ _ => pts_nil) (fun _ _ _ _ _ => (pe_tup (pa_cons (pe_tup (pa_cons (pv 11) pa_nil)) (pa_cons (pe_disp1 hu (pe_tup (pa_cons pe_int pa_nil)) (pe_tup (pa_cons pe_int (pa_cons pe_int pa_nil)))) pa_nil))))) pa_nil))) (pg_tup (n := 2) rfl (pgs_cons (pg_name (i := 3) sc_law_short.nd rfl (Or.inl rfl)) (pgs_cons (pg_name (i := 4) sc_law_short.nd rfl (Or.inr rfl)) pgs_nil)))) (pss_cons (ps_for PassesOwn.never rfl (pi_range1 rfl T.b_range (pa_cons (pv 2) pa_nil)) (pg_name (i := 5) sc_law_short.nd rfl (Or.inl rfl)) (pss_cons (ps_set (i := 6) sc_law_short.nd rfl (Or.inl rfl) (pe_cl c_law_line hr (by decide) rfl (pa_cons (pv 0) (pa_cons (pe_op op_add (pv 1) (pv 5)) (pa_cons (pe_lc (own := [("_law_place_here", 12)]) (g := gName 12) rfl sc_law_short.nd (pi_range2 rfl T.b_range (pa_cons (pv 1) (pa_cons (pe_op op_add (pv 1) (pv 5)) pa_nil))) (blkOk_by (own := [("_law_place_here", 12)]) (N := ["_law_row_here", "_law_size", "_law_many", "_law_lines", "_law_forms", "_law_k", "_law_line_here", "_law_form_here", "_law_lots", "_law_numbers", "_law_at", "_law_which", "_law_place_here"]) (sc := defScope s_law_short) (by decide +kernel)) (fun _ _ _ _ _ => pg_name (i := 12) sc_law_short.nd rfl (Or.inl rfl)) (fun _ _ _ _ _ => (pts_one (pt_cmpR op_eq (pe_callB call_lenDT (by rfl) T.b_len (by decide +kernel) (pa_cons (pe_ix (r := rIxT K) ix_tup (pe_ix (r := rIxL K) ix_list (pv 4) (pv 12) (fun _ _ => rfl)) pe_int (fun _ _ => rfl)) pa_nil)) pe_int (nomark _)))) (fun _ _ _ _ _ => (pv 12))) pa_nil))))) (pss_cons (ps_set (i := 7) sc_law_short.nd rfl (Or.inl rfl) (pe_cl c_law_form hr (by decide) rfl (pa_cons (pv 6) (pa_cons (pv 4) pa_nil)))) (pss_cons (ps_if (pt_cmp (pc_isN (pv 7)) rfl) (pss_cons (ps_set (i := 6) sc_law_short.nd rfl (Or.inl rfl) (pe_cl c_law_plainer hr (by decide) rfl (pa_cons (pv 0) (pa_cons (pv 1) (pa_cons (pe_op op_sub (pe_op op_add (pv 1) (pv 5)) pe_int) pa_nil))))) (pss_one (ps_set (i := 7) sc_law_short.nd rfl (Or.inl rfl) (pe_cl c_law_form hr (by decide) rfl (pa_cons (pv 6) (pa_cons (pv 4) pa_nil)))))) pss_nil) (pss_cons (ps_if (pt_cmp (pc_isN (pv 7)) rfl) (pss_cons (ps_set (i := 6) sc_law_short.nd rfl (Or.inl rfl) (pe_cl c_law_plainer hr (by decide) rfl (pa_cons (pv 0) (pa_cons (pv 1) (pa_cons pe_int pa_nil))))) (pss_one (ps_set (i := 7) sc_law_short.nd rfl (Or.inl rfl) (pe_cl c_law_form hr (by decide) rfl (pa_cons (pv 6) (pa_cons (pv 4) pa_nil)))))) pss_nil) (pss_cons (ps_expr (pe_bm PySem.F.plainAttrs_list PySem.F.slot_list_append PySem.F.type_list_append mt_append (pv 4) (pa_cons (pv 7) pa_nil))) (pss_one (ps_set (i := 3) sc_law_short.nd rfl (Or.inl rfl) (pe_op op_catA (pv 3) (pe_tup (pa_cons (pv 6) pa_nil))))))))))) (pss_cons (ps_set (i := 8) sc_law_short.nd rfl (Or.inr rfl) (pe_lc (own := [("_law_form_here", 7)]) (g := gName 7) rfl sc_law_short.nd (pi_list (pv 4)) (blkOk_by (own := [("_law_form_here", 7)]) (N := ["_law_row_here", "_law_size", "_law_many", "_law_lines", "_law_forms", "_law_k", "_law_line_here", "_law_form_here", "_law_lots", "_law_numbers", "_law_at", "_law_which", "_law_place_here"]) (sc := defScope s_law_short) (by decide +kernel)) (fun _ _ _ _ _ => pg_name (i := 7) sc_law_short.nd rfl (Or.inl rfl)) (fun _ _ _ _ _ => pts_nil) (fun _ _ _ _ _ => (pe_cl c_law_stand hr (by decide) rfl (pa_cons (pv 1) (pa_cons (pv 7) pa_nil)))))) (pss_cons (ps_setLc (i := 9) (own := [("_law_at", 10)]) (g := gName 10) rfl sc_law_short.nd rfl rfl (sw_true rfl rfl rfl (by decide +kernel)) (pi_range1 rfl T.b_range (pa_cons (pe_op op_add (pv 1) (pv 2)) pa_nil)) (blkOk_by (own := [("_law_at", 10)]) (N := ["_law_row_here", "_law_size", "_law_many", "_law_lines", "_law_forms", "_law_k", "_law_line_here", "_law_form_here", "_law_lots", "_law_numbers", "_law_at", "_law_which", "_law_place_here"]) (sc := defScope s_law_short) (by decide +kernel)) (fun _ _ _ _ _ => pg_name (i := 10) sc_law_short.nd rfl (Or.inl rfl)) (fun _ _ _ _ _ => pts_nil) (fun _ _ _ _ _ => (pe_ifExp (pt_truthK (K := K) rfl (pe_ix (r := rIxL K) ix_list (pv 8) (pv 10) (fun _ _ => rfl)) (by intro _; rfl)) pe_non (pe_dget2 hu (pe_ix (r := rIxT K) ix_tup (pe_ix (r := rIxL K) ix_list (pv 4) (pv 10) (fun _ _ => rfl)) pe_int (fun _ _ => rfl)) (pe_tup pa_nil) (pe_tup (pa_cons pe_int (pa_cons pe_int pa_nil))) ⟨rfl, rfl, rfl, rfl⟩)))) (pss_one (ps_ret (pe_tup (pa_cons (pv 3) (pa_cons (pv 8) (pa_cons (pv 9) (pa_cons (pe_lc (own := [("_law_form_here", 7)]) (g := gName 7) rfl sc_law_short.nd (pi_list (pv 4)) (blkOk_by (own := [("_law_form_here", 7)]) (N := ["_law_row_here", "_law_size", "_law_many", "_law_lines", "_law_forms", "_law_k", "_law_line_here", "_law_form_here", "_law_lots", "_law_numbers", "_law_at", "_law_which", "_law_place_here"]) (sc := defScope s_law_short) (by decide +kernel)) (fun _ _ _ _ _ => pg_name (i := 7) sc_law_short.nd rfl (Or.inl rfl)) (fun _ _ _ _ _ => pts_nil) (fun _ _ _ _ _ => (pe_cmpR op_eq (pe_callB call_lenDT (by rfl) T.b_len (by decide +kernel) (pa_cons (pe_ix (r := rIxT K) ix_tup (pv 7) pe_int (fun _ _ => rfl)) pa_nil)) pe_int (nomark _)))) pa_nil))))))))))), ?_⟩
  refine q_tl2 en ed_t0 (el_rng1 (n := n) (f := fun _ => true) (v := fun k => fmD (inF k)) (ea_c (ed_var rfl) ea_nil) (by omega) (fun i _ => eb_yes) fun i _ _ => ed_tup (ds := [loD [i], .dct [([0], qD (1, 1))]]) (ea_cd (ed_tup (ds := [nD i]) (ea_cd (ed_var rfl) ea_n)) (ea_cd (ed_disp1 (k := [0]) (es_tup (ds := [.int 0]) (esa_cons es_int esa_nil)) (es_tup (ds := [.int 1, .int 1]) (esa_cons es_int (esa_cons es_int esa_nil))) rfl) ea_n))) fun p ds σ1 H1 hp e1 en k1 => ?_
  have d1 : ds = ((List.range n).map inF).map fmD := by
    rw [e1, compL_all, List.map_map]
    rfl
  subst d1
  refine q_seq (l_rng1 (n := m) en (ea_c (ed_var rfl) ea_nil) (by omega) (fun k σ' H' => ∃ ls Fs, ls.length = k ∧ Rn n ls ∧ SF n ls Fs ∧ En (some a) H' σ' [.row a, .dat (nD n), .dat (nD m), .dat (lsD ls), .lst p (Fs.map fmD), .any, .any, .any, .any, .any, .any, .any, .any] ∧ Kp (some a) H H') (fun H' en k => ⟨[], _, rfl, .nil, sf0 n, en, k1.trans k⟩) (fun k σ' H' hk ⟨ls, Fs, hlen, hrn, hsf, en, kp⟩ => ?_) fun σ' H' ⟨ls, Fs, hlen, hrn, hsf, en, kp⟩ => ?_)
  · have en := en.set 5 (v := .int (k : Nat)) (s := .dat (nD k)) (.dat (.int _))
    have hFl : Fs.length = n + k := by rw [hsf.len, hlen]
    have ek : ∀ {r : Option Addr} {G : List Sl}, G[1]? = some (.dat (nD n)) → G[5]? = some (.dat (nD k)) → Ed r (tOp (rI0 fun i j => .int (i + j)) (tVar 1) (tVar 5)) G (nD (n + k)) := fun h1 h2 => ed_i (f := fun i j => i + j) (ed_var h1) (ed_var h2)
    have cform : ∀ {G : List Sl} {E : XK} {l : Ln}, LnOk (n + k) l → G[6]? = some (.dat (lD l)) → G[4]? = some (.lst p (Fs.map fmD)) → Ev (some a) (tCall (Con 2 A_form) [] E (tCons (tVar 6) (tCons (tVar 4) tNil))) G (fun s => ∃ d, s = .dat d ∧ Pf n Fs l d) := fun hl h1 h2 =>
      (ev_call' (ea_c (ed_var h1) (ea_c (ev_var h2) ea_nil)) ⟨n, _, p, Fs, rfl, n8, by rw [hFl]; exact hl, hsf.ok, rfl⟩).imp fun s h => by
        rcases h with ⟨rfl, h⟩ | ⟨F, h1, h2, rfl⟩
        · exact ⟨_, rfl, .inl ⟨rfl, h⟩⟩
        · exact ⟨_, rfl, .inr ⟨F, h1, h2, rfl⟩⟩
    have cplain : ∀ {G : List Sl} {E : XK} {t1 t2 t3 : TE} {b : Nat}, Ev (some a) t1 G (fun s => s = .row a) → Ed (some a) t2 G (nD n) → Ed (some a) t3 G (nD b) → Ev (some a) (tCall (Con 3 A_plainer) [] E (tCons t1 (tCons t2 (tCons t3 tNil)))) G (fun s => ∃ w j, j < n ∧ s = .dat (lD (.op w b j))) := fun h1 h2 h3 => ev_call' (ea_c h1 (ea_c h2 (ea_c h3 ea_nil))) ⟨a, n, _, rfl, rfl, by omega, rfl⟩
    refine q_setP en (ev_callI (P := fun s => ∃ l, LnOk (n + k) l ∧ s = .dat (lD l)) (PP := fun ss => ∃ v, ss = [.row a, .dat (nD (n + k)), .lst v (((List.range' n k).filter fun i => decide (((Fs.getD i ([], [])).2.length : Int) = 0)).map nD)]) ((ea_cons (ev_row rfl) (ea_cons (P := fun s => s = .dat (nD (n + k))) (ek rfl rfl) (ea_cons (ev_of (el_rng2 (lo := n) (n := k) (f := fun i => decide (((Fs.getD i ([], [])).2.length : Int) = 0)) (v := nD) (ea_c (ed_var rfl) (ea_c (ek rfl rfl) ea_nil)) (by omega) (fun i hi => eb_test (ed_eqI (Ed.is (ed_lenD (ed_ix1 (c := loD (Fs.getD (n + i) ([], [])).1) (ds := []) (ed_ixL (ev_var rfl) (ed_var rfl) (get_map (by rw [hFl]; omega))))) (by rw [tm_len])) ed_int)) fun i _ _ => ed_var rfl)) ea_nil))).imp ?_) ?_) fun s3 σ3 H3 p3 en k3 => ?_
    · rintro ss ⟨s1, s2, rfl, rfl, s3, s4, rfl, rfl, s5, s6, rfl, ⟨v, ds, rfl, rfl⟩, rfl⟩
      exact ⟨v, rfl⟩
    · rintro ss ⟨v, rfl⟩
      refine ⟨rfl, _, ⟨a, v, n + k, _, rfl, rfl, by omega, fun i hi => ?_, rfl⟩, fun s h => h⟩
      have := List.mem_range'_1.mp (List.mem_filter.mp hi).1
      omega
    obtain ⟨l0, hl0, rfl⟩ := p3
    refine q_setP en (cform hl0 rfl rfl) fun s4 σ4 H4 p4 en k4 => ?_
    obtain ⟨d0, rfl, pf0⟩ := p4
    replace k4 := (kp.trans k3).trans k4
    refine q_ifJ (fun σ' H' => ∃ l d, LnOk (n + k) l ∧ Pf n Fs l d ∧ En (some a) H' σ' [.row a, .dat (nD n), .dat (nD m), .dat (lsD ls), .lst p (Fs.map fmD), .dat (nD k), .dat (lD l), .dat d, .any, .any, .any, .any, .any] ∧ Kp (some a) H H') en (eb_test (ed_isN (ed_var rfl))) (fun nx hnx _ H5 en k5 => ?_) (fun _ H5 en k5 => ⟨l0, d0, hl0, pf0, en, k4.trans k5⟩) fun σ5 H5 h5 => ?_
    · refine q_setP en (cplain (b := n + k - 1) (ev_row rfl) (ed_var rfl) (Ed.is (ed_i (f := fun i j => i - j) (ek rfl rfl) ed_int) ?_)) fun s6 σ6 H6 p6 en k6 => ?_
      · unfold nD
        congr 1
        omega
      obtain ⟨w', j, hj, rfl⟩ := p6
      have hl1 : LnOk (n + k) (.op w' (n + k - 1) j) := ⟨by omega, by omega⟩
      refine s_setP en (cform hl1 rfl rfl) fun s7 σ7 H7 p7 en k7 => ?_
      obtain ⟨d, rfl, pf⟩ := p7
      exact hnx _ _ ⟨_, d, hl1, pf, en, ((k4.trans k5).trans k6).trans k7⟩
    obtain ⟨l1, d1, hl1, pf1, en, k5⟩ := h5
    refine q_ifJ (fun σ' H' => ∃ l F, LnOk (n + k) l ∧ FI n 100 F ∧ fC n F = fLn n Fs l ∧ En (some a) H' σ' [.row a, .dat (nD n), .dat (nD m), .dat (lsD ls), .lst p (Fs.map fmD), .dat (nD k), .dat (lD l), .dat (fmD F), .any, .any, .any, .any, .any] ∧ Kp (some a) H H') en (eb_test (ed_isN (ed_var rfl))) (fun nx hnx _ H6 en k6 => ?_) (fun hb H6 en k6 => ?_) fun σ6 H6 h6 => ?_
    · refine q_setP en (cplain (b := 0) (ev_row rfl) (ed_var rfl) ed_int) fun s7 σ7 H7 p7 en k7 => ?_
      obtain ⟨w', j, hj, rfl⟩ := p7
      have hl2 : LnOk (n + k) (.op w' 0 j) := ⟨by omega, by omega⟩
      refine s_setP en (cform hl2 rfl rfl) fun s8 σ8 H8 p8 en k8 => ?_
      obtain ⟨d, rfl, pf⟩ := p8
      rcases pf with ⟨_, ne⟩ | ⟨F, h1, h2, rfl⟩
      · exact absurd ⟨w', 0, j, 0, j, rfl, by omega, hj, hsf.ins 0 (by omega), hsf.ins j hj⟩ ne
      · exact hnx _ _ ⟨_, F, hl2, h1, h2, en, ((k5.trans k6).trans k7).trans k8⟩
    · rcases pf1 with ⟨rfl, _⟩ | ⟨F, h1, h2, rfl⟩
      · cases hb
      · exact ⟨l1, F, hl1, h1, h2, en, k5.trans k6⟩
    obtain ⟨l, F, hlk, hF, hC, en, k6⟩ := h6
    refine q_app en rfl (d := fmD F) (ed_var rfl) (by rw [List.length_map]; omega) (by simp [noAl]) k6 hp fun H7 en k7 _ => ?_
    refine s_set en (ed_catA (ds := ls.map lD) (es := [lD l]) (ed_var rfl) (ed_tup (ea_cd (ed_var rfl) ea_n)) (by rw [List.length_map, List.length_singleton]; omega)) fun σ10 H10 en k10 => ?_
    refine ⟨ls ++ [l], Fs ++ [F], by rw [List.length_append, hlen]; rfl, .snoc hrn (by rw [hlen]; exact hlk), hsf.step n8 hrn (by rw [hlen]; exact hlk) hF hC, ?_, k7.trans k10⟩
    have e3 : (Fs ++ [F]).map fmD = Fs.map fmD ++ [fmD F] := by rw [List.map_append]; rfl
    have e4 : lsD (ls ++ [l]) = .tup (ls.map lD ++ [lD l]) := by
      unfold lsD
      rw [List.map_append]
      rfl
    rw [e3, e4]
    exact En.drops [5, 6, 7] en
  · have hc := ci hrn n8
    have hFl := hsf.len
    have gF : ∀ {i : Nat}, i < n + ls.length → FI n 100 (Fs.getD i ([], [])) := fun hi => hsf.ok _ (getD_mem (by rw [hFl]; exact hi))
    have e1 : (List.range (Fs.map fmD).length).map (fun i => loD ((call n ls).at i).1) = (call n ls).1.map loD := by
      rw [map_at loD [] (call n ls).1, hc.l1, List.length_map, hFl]
      rfl
    have e2 : (List.range (n + m)).map (fun i => oD ((call n ls).at i).2) = (call n ls).2.map oD := by
      rw [map_at oD none (call n ls).2, hc.l2, hlen]
      rfl
    refine q_setL en (el_lstI (wv := fun i => loD ((call n ls).at i).1) (ev_var rfl) (by rw [List.length_map]; omega) fun i d hd => ?_) fun q ds σ2 H2 hq0 nq pd en k2 => ?_
    · obtain ⟨F, hF1, rfl⟩ := getE_map hd
      have hi := (List.getElem?_eq_some_iff.mp hF1).1
      have eF : Fs.getD i ([], []) = F := by rw [List.getD_eq_getElem?_getD, hF1]; rfl
      refine ev_call' (ss := [.dat (nD n), .dat (fmD F)]) (ea_c (ed_var rfl) (ea_c (ed_var rfl) ea_nil)) ⟨n, F, rfl, n8, hsf.ok F (List.mem_of_getElem? hF1), ?_⟩
      have := hsf.cs i (by omega)
      rw [eF] at this
      rw [← this]
      rfl
    rw [e1] at pd
    subst pd
    replace k2 := kp.trans k2
    refine q_setL en (el_rng1 (n := n + m) (f := fun _ => true) (v := fun i => oD ((call n ls).at i).2) (ea_c (Ed.is (ed_i (f := fun i j => i + j) (ed_var rfl) (ed_var rfl)) rfl) ea_nil) (by omega) (fun i _ => eb_yes) fun i hi _ => ?_) fun u ds σ3 H3 hu0 nu pd en k3 => ?_
    · have hi' : i < n + ls.length := by omega
      have hcs := hsf.cs i hi'
      have hst : stand n (Fs.getD i ([], [])) = ((call n ls).at i).1 := by rw [← hcs]; rfl
      have hnm : fnum n (Fs.getD i ([], [])) = ((call n ls).at i).2 := by rw [← hcs]; rfl
      have g8 : ((call n ls).1.map loD)[i]? = some (.tup (((call n ls).at i).1.map nD)) := get_map (f := loD) (d := []) (by rw [hc.l1]; exact hi')
      have g4 : (Fs.map fmD)[i]? = some (fmD (Fs.getD i ([], []))) := get_map (by rw [hFl]; exact hi')
      refine ev_if (eb_truT (ed_ixL (ev_var rfl) (ed_var rfl) g8)) (fun hb => ?_) fun hb => ?_
      · have hne : ¬ stand n (Fs.getD i ([], [])) = [] := fun z => by
          rw [← hst, z] at hb
          cases hb
        have : ((call n ls).at i).2 = none := by
          rw [← hnm]
          unfold fnum
          rw [if_neg hne]
        rw [this]
        exact ed_non
      · have hne : stand n (Fs.getD i ([], [])) = [] := by
          rw [hst]
          cases hz : ((call n ls).at i).1 with
          | nil => rfl
          | cons x y =>
            rw [hz] at hb
            cases hb
        have e5 : ((call n ls).at i).2 = some ((glook (Fs.getD i ([], [])).2 []).getD (0, 1)) := by
          rw [← hnm]
          unfold fnum
          rw [if_pos hne]
        rw [e5]
        exact Ed.is (ed_dget2 (k := []) (ed_ix1 (c := loD (Fs.getD i ([], [])).1) (ds := []) (ed_ixL (ev_var rfl) (ed_var rfl) g4)) ed_t0 ed_q01) look_getD
    rw [compL_all, e2] at pd
    subst pd
    replace k3 := k2.trans k3
    refine s_ret (D' := { nx := _, rt := Q }) en (ev_tlP (PP := fun ss => ∃ u', ss = [.dat (lsD ls), .lst q ((call n ls).1.map loD), .lst u ((call n ls).2.map oD), .lst u' (blD (n + ls.length) (nzf n ls))]) ((ea_cons (P := fun s => s = .dat (lsD ls)) (ed_var rfl) (ea_cons (P := fun s => s = .lst q ((call n ls).1.map loD)) (ev_var rfl) (ea_cons (P := fun s => s = .lst u ((call n ls).2.map oD)) (ev_var rfl) (ea_cons (ev_of (el_lstI (wv := fun i => .bl (nzf n ls i)) (ev_var rfl) (by rw [List.length_map]; omega) fun i d hd => ?_)) ea_nil)))).imp ?_) ?_) fun v H' s k sv e => hq v H' s (k3.trans k) sv ?_
    · obtain ⟨F, hF1, rfl⟩ := getE_map hd
      have hi := (List.getElem?_eq_some_iff.mp hF1).1
      have eF : Fs.getD i ([], []) = F := by rw [List.getD_eq_getElem?_getD, hF1]; rfl
      have hcs := hsf.cs i (by omega)
      rw [eF] at hcs
      refine Ed.is (ed_eqI (Ed.is (ed_lenD (ed_ix1 (c := loD F.1) (ds := []) (ed_var rfl))) (by rw [tm_len])) ed_int) ?_
      congr 1
      have hz := fz (hsf.ok F (List.mem_of_getElem? hF1))
      have en' : nzf n ls i = isZ (fnum n F) := by
        unfold nzf
        rw [← hcs]
        rfl
      rw [en', Bool.eq_iff_iff, hz, decide_eq_true_eq]
      constructor
      · intro z
        exact List.eq_nil_of_length_eq_zero (by omega)
      · intro z
        rw [z]
        rfl
    · rintro ss ⟨s1, s2, rfl, rfl, s3, s4, rfl, rfl, s5, s6, rfl, rfl, s7, s8, rfl, ⟨v, ds, rfl, rfl⟩, rfl⟩
      refine ⟨v, ?_⟩
      rw [List.length_map, hFl]
      rfl
    · rintro ss ⟨v, rfl⟩
      exact Nat.le_of_ble_eq_true rfl
    · obtain ⟨ss, rfl, v, rfl⟩ := e
      exact ⟨ls, _, _, _, ⟨n1, n8, by omega, by omega, hrn, short_vb hrn (by omega)⟩, rfl, q, u, v, rfl, rfl, rfl⟩
end
end Zk

-- part ZA7
namespace Zk
open PySem PySem.Spec PyProof.Rows L2 Zb Zr Zm RZ
def refD : D := .tup [.str "program", .int (-1), .str "refused"]
noncomputable def askD (x : Str) (n : Nat) (ls : List Ln) : D := if x = "carried" then .tup (((call n ls).1.drop n).map loD) else if x = "numbers" then .tup (((call n ls).2.drop n).map oD) else cntD n ls
def A_ask : CA := fun _ ss P => ∃ x : Str, (x = "carried" ∨ x = "numbers" ∨ x = "counting") ∧ ((∃ n ls, ss = [.dat (.str x), .dat (prD n ls)] ∧ PrOk n ls ∧ P = fun s => s = .dat (askD x n ls)) ∨ ∃ (d : D) (ls : List (Str × List D)), ss = [.dat (.str x), .dat (.tup [d, .tup (ls.map fun l => .tup (.str l.1 :: l.2))])] ∧ ls.length ≤ 1000 ∧ (ls.all fun l => !decide (l.1 = ("mix" : Str))) = false ∧ P = fun s => s = .dat refD)
section
variable {r : Option Addr} {K : PySem.W.Frag} {G : List Sl} {σ : L2.St} {H : Hp} {t : TA}
theorem ret_callS {sp : Sp} {E : L2.St → XK} {D' : Ends} (h : t σ H fun vs H1 => sp vs H1 D'.rt (E σ)) : tRet (tCallS sp E t) D' σ H := h
theorem ev_callX {n : Nat} {A : CA} {B : Sp} {E : L2.St → XK} {ss : List Sl} {P : Sl → Prop} (h : Ea r t G (fun x => x = ss)) (hA : A r ss P) (hl : ss.length = n := by rfl) : Ev r (tCallS (ConX n A B) E t) G P := fun σ H e Q q =>
  h σ H e _ fun vs H2 ss' k2 sv pv => by
    subst pv
    exact .inl ⟨r, ss', P, by rw [sv.length, hl], hA, sv, k2.rk e.rk, fun v H3 s k3 s3 p3 => q v H3 s (k2.trans k3) s3 p3⟩
end
section
variable {P : Program} {w : World} {K : PySem.W.Frag} {mg : Str → Option Value} {base : Heap} {C : Addr} (T : Txt K mg) (TX : TxE K mg C)
include T TX
theorem ok_law_ask (c_carried_of : ClX P w K mg base 6 "carried_of" "program" (ConX 1 A_carried (MixB C))) (c_numbers_of : ClX P w K mg base 6 "numbers_of" "program" (ConX 1 A_numbers (MixB C))) (c_counting_of : ClX P w K mg base 6 "counting_of" "program" (ConX 1 A_counting (MixB C))) : Cl P w K mg base 7 "_law_ask" (Con 2 A_ask) := by
  obtain ⟨f1, fd1, F1, m1, kp1, b1, _⟩ := c_carried_of.ex
  obtain ⟨f2, fd2, F2, m2, kp2, b2, _⟩ := c_numbers_of.ex
  obtain ⟨f3, fd3, F3, m3, kp3, b3, _⟩ := c_counting_of.ex
  refine mkCl T.d_law_ask sc_law_ask (fun _ _ _ _ _ _ us hl => match us, hl with | [_, _], _ => rfl) Con.len (fun f cdv A outer s H vs Q E hr h => ?_)
  obtain ⟨r, ss, PP, hl, ⟨x, hx, hc⟩, hv, rk, hq⟩ := h
  refine ⟨_, pss_one (ps_try_as (i := 2) rfl rfl sc_law_ask.nd rfl rfl ⟨rfl, by decide, .inl TX.gC⟩ takes0
    (fun W pn xe tk _ => pss_cons (ps_if (pt_cmpR op_eq (pv 0) pe_str (nomark _)) (pss_one (ps_ret (pe_callS F1 hr rfl m1 kp1 b1 (fun σ => passAt tk σ) (pa_cons (pv 1) pa_nil)))) pss_nil) (pss_cons (ps_if (pt_cmpR op_eq (pv 0) pe_str (nomark _)) (pss_one (ps_ret (pe_callS F2 hr rfl m2 kp2 b2 (fun σ => passAt tk σ) (pa_cons (pv 1) pa_nil)))) pss_nil) (pss_one (ps_ret (pe_callS F3 hr rfl m3 kp3 b3 (fun σ => passAt tk σ) (pa_cons (pv 1) pa_nil))))))
    (fun a oe cls d pn hz hf => pss_one (ps_ret (pe_tup (pa_cons (pe_xf TX.xf TX.nw hz hf (pv 2)) (pa_cons (pe_xf TX.xf TX.na hz hf (pv 2)) (pa_cons pe_str pa_nil))))))), ?_⟩
  rcases hc with ⟨n, ls, rfl, hp, rfl⟩ | ⟨d, ls, rfl, h1000, hmix, rfl⟩
  · have en := En.start (N := ["_law_word", "_law_program", "error"]) hv rk
    rcases hx with rfl | rfl | rfl
    · refine q_take en ((eb_test (ed_eqS (ed_var rfl) ed_str)).is (by decide +kernel)) fun H1 en k1 => ?_
      exact s_ret en (ev_callX (ss := [.dat (prD n ls)]) (ea_c (ed_var rfl) ea_nil) ⟨n, ls, rfl, hp, rfl⟩) fun v H' s k sv e => hq v H' s (k1.trans k) sv e
    · refine q_pass en ((eb_test (ed_eqS (ed_var rfl) ed_str)).is (by decide +kernel)) fun H1 en k1 => ?_
      refine q_take en ((eb_test (ed_eqS (ed_var rfl) ed_str)).is (by decide +kernel)) fun H2 en k2 => ?_
      exact s_ret en (ev_callX (ss := [.dat (prD n ls)]) (ea_c (ed_var rfl) ea_nil) ⟨n, ls, rfl, hp, rfl⟩) fun v H' s k sv e => hq v H' s ((k1.trans k2).trans k) sv e
    · refine q_pass en ((eb_test (ed_eqS (ed_var rfl) ed_str)).is (by decide +kernel)) fun H1 en k1 => ?_
      refine q_pass en ((eb_test (ed_eqS (ed_var rfl) ed_str)).is (by decide +kernel)) fun H2 en k2 => ?_
      exact s_ret en (ev_callX (ss := [.dat (prD n ls)]) (ea_c (ed_var rfl) ea_nil) ⟨n, ls, rfl, hp, rfl⟩) fun v H' s k sv e => hq v H' s ((k1.trans k2).trans k) sv e
  · have en := En.start (N := ["_law_word", "_law_program", "error"]) (ss := [.dat (.str x), .dat (.tup [d, .tup (ls.map fun l => .tup (.str l.1 :: l.2))])]) hv rk
    have hlen : (L2.start ["_law_word", "_law_program", "error"] vs).length = 3 := en.sl.length
    have out : ∀ (H' : Hp) (dd : Addr), Kp r H H' → H' dd = some (.xd fs0) → ∀ a, H' a = none → tRet (tTup (tCons (tXf a (.ref C) (some dd) C "word" (tVar 2)) (tCons (tXf a (.ref C) (some dd) C "at" (tVar 2)) (tCons (tC (.str "refused")) tNil)))) { nx := fun σ' H' => Q V.non H', rt := Q, bk := fun σ' H' => False, ct := fun σ' H' => False } ((L2.start ["_law_word", "_law_program", "error"] vs).set 2 (some (.ref a))) H' := fun H' dd k hx a ha => by
      have g2 : ((L2.start ["_law_word", "_law_program", "error"] vs).set 2 (some (.ref a)))[2]? = some (some (.ref a)) := List.getElem?_set_self (by rw [hlen]; decide)
      refine ⟨.ref a, g2, rfl, rfl, dd, fs0, .str "program", rfl, hx, by decide +kernel, ?_⟩
      refine ⟨.ref a, g2, rfl, rfl, dd, fs0, .int (-1), rfl, hx, by decide +kernel, ?_⟩
      refine ⟨by show 3 ≤ sizeLine; decide, fun p hp => ?_⟩
      have kn : Kp r H' (L2.upd H' p (.tup [.str "program", .int (-1), .str "refused"])) := Kp.new hp
      exact hq _ _ (.dat refD) (k.trans kn) (.dat (.tup upd_same (.cons (.str _) (.cons (.int _) (.cons (.str _) .nil))))) rfl
    rcases hx with rfl | rfl | rfl
    · refine q_take en ((eb_test (ed_eqS (ed_var rfl) ed_str)).is (by decide +kernel)) fun H1 en k1 => ?_
      refine ret_callS (ea_c (r := r) (s := .dat (.tup [d, .tup (ls.map fun l => .tup (.str l.1 :: l.2))])) (ss := []) (ed_var (i := 1) rfl) ea_nil _ _ en _ fun vs' H9 ss k9 sv pv => ?_)
      subst pv
      exact .inr ⟨r, d, ls, sv.length, sv, k9.rk en.rk, h1000, hmix, fun dd H' kp hx => ⟨true, TX.xm, fun _ a ha => out H' dd ((k1.trans k9).trans kp) hx a ha, fun z => nomatch z⟩⟩
    · refine q_pass en ((eb_test (ed_eqS (ed_var rfl) ed_str)).is (by decide +kernel)) fun H1 en k1 => ?_
      refine q_take en ((eb_test (ed_eqS (ed_var rfl) ed_str)).is (by decide +kernel)) fun H2 en k2 => ?_
      refine ret_callS (ea_c (r := r) (s := .dat (.tup [d, .tup (ls.map fun l => .tup (.str l.1 :: l.2))])) (ss := []) (ed_var (i := 1) rfl) ea_nil _ _ en _ fun vs' H9 ss k9 sv pv => ?_)
      subst pv
      exact .inr ⟨r, d, ls, sv.length, sv, k9.rk en.rk, h1000, hmix, fun dd H' kp hx => ⟨true, TX.xm, fun _ a ha => out H' dd (((k1.trans k2).trans k9).trans kp) hx a ha, fun z => nomatch z⟩⟩
    · refine q_pass en ((eb_test (ed_eqS (ed_var rfl) ed_str)).is (by decide +kernel)) fun H1 en k1 => ?_
      refine q_pass en ((eb_test (ed_eqS (ed_var rfl) ed_str)).is (by decide +kernel)) fun H2 en k2 => ?_
      refine ret_callS (ea_c (r := r) (s := .dat (.tup [d, .tup (ls.map fun l => .tup (.str l.1 :: l.2))])) (ss := []) (ed_var (i := 1) rfl) ea_nil _ _ en _ fun vs' H9 ss k9 sv pv => ?_)
      subst pv
      exact .inr ⟨r, d, ls, sv.length, sv, k9.rk en.rk, h1000, hmix, fun dd H' kp hx => ⟨true, TX.xm, fun _ a ha => out H' dd (((k1.trans k2).trans k9).trans kp) hx a ha, fun z => nomatch z⟩⟩
end
end Zk

-- part ZA8
namespace Zk
open PySem PySem.Spec PyProof.Rows L2 Zb Zr Zm RZ
theorem for_enumL {K : PySem.W.Frag} {a : Addr} {xs : List V} {g : TG} {tb : TS} {D : Ends} {σ : L2.St} {H : Hp} (Pv : Nat → L2.St → Hp → Prop) (h0 : Pv 0 σ H) (hq : ∀ i σ H, Pv i σ H → SqL K H a xs)
    (hs : ∀ (i : Nat) (T : Addr) (x : V) (σ : L2.St) (H : Hp), xs[i]? = some x → Pv i σ H → H T = none → g (.ref T) σ (upd H T (.tup [.int (i : Nat), x])) fun σ2 H2 => tb { D with nx := Pv (i + 1), ct := Pv (i + 1), bk := D.nx } σ2 H2) (hd : ∀ σ H, Pv xs.length σ H → D.nx σ H) :
    ∃ W : Nat → Nat → L2.St → Hp → Prop, (∃ m, W 0 m σ H) ∧ ∀ i m σ H, W i m σ H →
      ((Ite K a).stop i H ∧ D.nx σ H) ∨ ((Ite K a).go i H ∧ ∃ N : L2.St → Hp → Prop, (∀ σ' H', N σ' H' → ∃ m', m' < m ∧ W (i + 1) m' σ' H') ∧ ∀ v H', (Ite K a).yld i H v H' → g v σ H' fun σ2 H2 => tb { D with nx := N, ct := N, bk := D.nx } σ2 H2) := by
  refine ⟨fun i m σ H => m = xs.length - i ∧ i ≤ xs.length ∧ Pv i σ H, ⟨xs.length, rfl, Nat.zero_le _, h0⟩, ?_⟩
  rintro i m σ H ⟨rfl, hi, p⟩
  have qx := hq i σ H p
  by_cases hlt : i < xs.length
  · have hx : xs[i]? = some xs[i] := List.getElem?_eq_getElem hlt
    refine .inr ⟨⟨xs, _, qx, hx⟩, Pv (i + 1), fun σ' H' p' => ⟨xs.length - (i + 1), by omega, rfl, hlt, p'⟩, fun v H' y => ?_⟩
    obtain ⟨T, x', rfl, hT, rfl, f1⟩ := y
    exact hs i T x' σ H (f1 xs qx) p hT
  · have e : i = xs.length := by omega
    subst e
    exact .inl ⟨⟨xs, qx, Nat.le_refl _⟩, hd σ H p⟩
section
variable {K : PySem.W.Frag} {a : Addr} {xs : List V} {te : TE} {g : TG} {tb t1 t2 : TS} {D : Ends} {σ : L2.St} {H : Hp}
theorem f_list (h : ∀ Q : VK, Q (.ref a) H → te σ H Q) (sq : SqL K H a xs) (Pv : Nat → L2.St → Hp → Prop) (h0 : Pv 0 σ H) (hl : ∀ i σ H, i ≤ xs.length → Pv i σ H → SqL K H a xs)
    (hs : ∀ i x σ H, xs[i]? = some x → Pv i σ H → g x σ H fun σ2 H2 => tb { D with nx := Pv (i + 1), ct := Pv (i + 1), bk := D.nx } σ2 H2) (hd : ∀ σ H, Pv xs.length σ H → D.nx σ H) : tFor (iList K te) g tb D σ H :=
  h _ ⟨a, rfl, ⟨xs, sq⟩, for_list Pv h0 hl hs hd⟩
theorem f_enumL (h : ∀ Q : VK, Q (.ref a) H → te σ H Q) (sq : SqL K H a xs) (Pv : Nat → L2.St → Hp → Prop) (h0 : Pv 0 σ H) (hq : ∀ i σ H, Pv i σ H → SqL K H a xs)
    (hs : ∀ (i : Nat) (T : Addr) (x : V) (σ : L2.St) (H : Hp), xs[i]? = some x → Pv i σ H → H T = none → g (.ref T) σ (upd H T (.tup [.int (i : Nat), x])) fun σ2 H2 => tb { D with nx := Pv (i + 1), ct := Pv (i + 1), bk := D.nx } σ2 H2) (hd : ∀ σ H, Pv xs.length σ H → D.nx σ H) : tFor (iEnum K (tCons te tNil)) g tb D σ H :=
  h _ ⟨a, xs, rfl, sq, for_enumL Pv h0 hq hs hd⟩
theorem s_truA (h : ∀ Q : VK, Q (.ref a) H → te σ H Q) (sq : SqL K H a xs) (k1 : (!xs.isEmpty) = true → t1 D σ H) (k2 : (!xs.isEmpty) = false → t2 D σ H) : tIfS (fun σ H Q => te σ H fun x H' => ∃ k, TruV K x H' k ∧ Q k H') t1 t2 D σ H := by
  refine h _ ⟨!xs.isEmpty, .inl ⟨xs, sq, rfl⟩, ?_⟩
  cases e : !xs.isEmpty with
  | true => exact k1 e
  | false => exact k2 e
end
/-- the script's list, a new row -/
def sp_row (K : PySem.W.Frag) : Sp := fun vs H Q _ => ∃ (a : Addr) (ns : List Int), vs = [.ref a] ∧ ns.length ≤ 63 ∧ SqL K H a (ns.map V.int) ∧ ∀ p H', H p = none → Kp none H H' → Row H' p → Q (.ref p) H'
theorem SqL.keep {K : PySem.W.Frag} {H H' : Hp} {a : Addr} {xs : List V} (k : Kp none H H') (h : SqL K H a xs) : SqL K H' a xs := by
  rcases h with h | h
  · left
    rcases h with h | ⟨o, h⟩
    · exact .inl (k.lst a xs (fun z => nomatch z) h)
    · exact .inr ⟨o, k.fz a o _ h⟩
  · exact .inr h
section
variable {P : Program} {w : World} {K : PySem.W.Frag} {mg : Str → Option Value} {base : Heap} (T : Txt K mg)
include T
theorem ok_law_row : Cl P w K mg base 1 "_law_row" (sp_row K) := by
  refine mkCl T.d_law_row sc_law_row (fun _ _ _ _ _ _ us hl => match us, hl with | [_], _ => rfl) (fun vs H Q E h => ?_) (fun f cdv A outer s H vs Q E hr h => ?_)
  · obtain ⟨a, ns, rfl, _⟩ := h
    rfl
  obtain ⟨a, ns, rfl, h63, hS, hq⟩ := h
  have rk : ∀ a : Addr, (none : Option Addr) = some a → Row H a := fun a z => nomatch z
  have hv : SvAll none H [.ref a] [.adr a] := .cons (.adr a) .nil
  have en := En.start (N := ["_law_script", "_law_row_here", "_law_cell", "_law_left", "_law_turn", "_law_one", "_law_place_here"]) hv rk
  refine ⟨_, (pss_cons (ps_set (i := 1) sc_law_row.nd rfl (Or.inl rfl) (pe_lst pa_nil)) (pss_cons (ps_for PassesOwn.never rfl (pi_list (pv 0)) (pg_name (i := 2) sc_law_row.nd rfl (Or.inl rfl)) (pss_cons (ps_set (i := 3) sc_law_row.nd rfl (Or.inl rfl) (pe_callB call_abs (by rfl) T.b_abs (by decide +kernel) (pa_cons (pv 2) pa_nil))) (pss_one (ps_if (pt_cmpR op_ge (pv 3) pe_int (nomark _)) (pss_one (ps_for PassesOwn.never rfl (pi_range1 rfl T.b_range (pa_cons pe_int pa_nil)) (pg_name (i := 4) sc_law_row.nd rfl (Or.inl rfl)) (pss_one (ps_if (pt_cmpR op_gt (pv 3) pe_int (nomark _)) (pss_cons (ps_expr (pe_bm PySem.F.plainAttrs_list PySem.F.slot_list_append PySem.F.type_list_append mt_append (pv 1) (pa_cons (pe_op op_mod (pe_callTy call_int1 (by rfl) T.b_int (by decide +kernel) (pa_cons (pv 3) pa_nil)) pe_int) pa_nil))) (pss_one (ps_set (i := 3) sc_law_row.nd rfl (Or.inl rfl) (pe_op op_fdivW (pv 3) pe_int)))) pss_nil)))) pss_nil)))) (pss_cons (ps_if (pt_truth (pv 0) (by intro _; rfl)) (pss_cons (ps_set (i := 5) sc_law_row.nd rfl (Or.inl rfl) pe_int) (pss_cons (ps_for PassesOwn.never rfl (pi_enum (by rfl) T.b_enumerate (pa_cons (pv 0) pa_nil)) (pg_tup (n := 2) rfl (pgs_cons (pg_name (i := 6) sc_law_row.nd rfl (Or.inl rfl)) (pgs_cons (pg_name (i := 2) sc_law_row.nd rfl (Or.inl rfl)) pgs_nil))) (pss_one (ps_set (i := 5) sc_law_row.nd rfl (Or.inl rfl) (pe_op op_mod (pe_callTy call_int1 (by rfl) T.b_int (by decide +kernel) (pa_cons (pe_op op_add (pe_op op_add (pe_op op_add (pe_op op_mul (pv 5) pe_int) (pe_op op_mul (pv 2) pe_int)) (pe_op op_mul (pv 6) pe_int)) pe_int) pa_nil)) pe_int)))) (pss_one (ps_for PassesOwn.never rfl (pi_range1 rfl T.b_range (pa_cons pe_int pa_nil)) (pg_name (i := 6) sc_law_row.nd rfl (Or.inl rfl)) (pss_cons (ps_set (i := 5) sc_law_row.nd rfl (Or.inl rfl) (pe_op op_mod (pe_callTy call_int1 (by rfl) T.b_int (by decide +kernel) (pa_cons (pe_op op_add (pe_op op_add (pe_op op_add (pe_op op_mul (pv 5) (pv 5)) (pe_op op_mul (pv 5) pe_int)) (pe_op op_mul (pv 6) pe_int)) pe_int) pa_nil)) pe_int)) (pss_one (ps_expr (pe_bm PySem.F.plainAttrs_list PySem.F.slot_list_append PySem.F.type_list_append mt_append (pv 1) (pa_cons (pe_op op_fdivW (pv 5) pe_int) pa_nil))))))))) pss_nil) (pss_one (ps_ret (pe_revL (pv 1))))))), ?_⟩
  refine q_setL en (el_lst (ds := []) ea_n) fun p ds σ1 H1 hp np pd en k1 => ?_
  subst pd
  have pa : ∀ {H' : Hp} {σ : L2.St} {G : List Sl}, En none H' σ G → G[0]? = some (.adr a) → ∀ (Q : VK), Q (.ref a) H' → tVar 0 σ H' Q := fun e h Q q => by
    obtain ⟨v, g1, g2⟩ := e.get h (by intro z; cases z)
    cases g2
    exact ⟨_, g1, q⟩
  refine q_seq (f_list (pa en rfl) (SqL.keep k1 hS) (fun i σ' H' => ∃ ms : List Int, ms.length ≤ 60 * i ∧ En none H' σ' [.adr a, .lst p (ms.map D.int), .any, .any, .any, .any, .any] ∧ Kp none H H') ⟨[], Nat.le_refl _, en, k1⟩ (fun i σ' H' _ ⟨_, _, _, k⟩ => SqL.keep k hS) (fun i x σ' H' hx ⟨ms, hms, en, k⟩ => ?_) fun σ' H' ⟨ms, hms, en, k⟩ => ?_)
  · obtain ⟨c, hc, rfl⟩ := getE_map hx
    have hi := (List.getElem?_eq_some_iff.mp hc).1
    have en := en.set 2 (v := .int c) (s := .dat (.int c)) (.dat (.int c))
    refine q_set (s := .dat (.int (c.natAbs : Int))) en (ed_abs (ed_var rfl)) fun σ2 H2 en k2 => ?_
    refine s_ifB en (eb_test (ed_c (f := fun i j => decide (i ≥ j)) (ed_var rfl) ed_int)) (fun _ H3 en k3 => ?_) fun _ H3 en k3 => ?_
    · replace k3 := (k.trans k2).trans k3
      refine l_rng1 (n := 60) en (ea_c ed_int ea_nil) (by decide) (fun t σ' H' => ∃ (ms' : List Int) (l : Int), ms'.length ≤ 60 * i + t ∧ En none H' σ' [.adr a, .lst p (ms'.map D.int), .any, .dat (.int l), .any, .any, .any] ∧ Kp none H H') (fun H' en k => ⟨ms, _, hms, En.drops [2] en, k3.trans k⟩) (fun t σ' H' ht ⟨ms', l, hm', en, k⟩ => ?_) fun σ' H' ⟨ms', l, hm', en, k⟩ => ⟨ms', by omega, En.drops [3] en, k⟩
      have en := en.set 4 (v := .int (t : Nat)) (s := .dat (nD t)) (.dat (.int _))
      refine s_ifB en (eb_test (ed_c (f := fun i j => decide (i > j)) (ed_var rfl) ed_int)) (fun _ H4 en k4 => ?_) fun _ H4 en k4 => ?_
      · refine q_app en rfl (d := .int (l % 10039)) (ed_iC (f := fun i j => i % j) (ed_intOf (ed_var rfl)) ed_int (by decide)) (by rw [List.length_map]; omega) (by simp [noAl]) (k.trans k4) hp fun H5 en k5 _ => ?_
        refine s_set en (s := .dat (.int (l / 10039))) (ed_iC (f := fun i j => i / j) (ed_var rfl) ed_int (wide_div (b := 20) (by decide) (by decide) (by decide) (by decide))) fun σ6 H6 en k6 => ?_
        refine ⟨ms' ++ [l % 10039], l / 10039, by rw [List.length_append, List.length_singleton]; omega, ?_, k5.trans k6⟩
        rw [List.map_append]
        exact En.drops [4] en
      · exact ⟨ms', l, by omega, En.drops [4] en, k.trans k4⟩
    · exact ⟨ms, by omega, En.drops [2, 3] en, (k.trans k2).trans k3⟩
  · rw [List.length_map] at hms
    have fin : ∀ (σ' : L2.St) (H' : Hp) (ms : List Int), ms.length ≤ 99999 → En none H' σ' [.adr a, .lst p (ms.map D.int), .any, .any, .any, .any, .any] → Kp none H H' → tRet (tRevL K (tVar 1)) { nx := fun x H' => Q V.non H', rt := Q } σ' H' := fun σ' H' ms _ en k => by
      obtain ⟨v, g1, g2⟩ := en.get (i := 1) rfl (by intro z; cases z)
      cases g2 with
      | lst n hls =>
        obtain ⟨xs, hx, hd⟩ := hls
        have ei := hd.ints
        subst ei
        refine ⟨_, g1, p, _, rfl, SqL.of hx, fun q hq' => ?_⟩
        have kn : Kp none H' (L2.upd H' q (.lst (ms.map V.int).reverse)) := Kp.new hq'
        refine hq q _ (k.fresh hq') (k.trans kn) ⟨ms.reverse, ?_⟩
        rw [upd_same, List.map_reverse]
    have hs' := SqL.keep k hS
    refine q_seq (s_truA (pa en rfl) hs' (fun _ => ?_) fun _ => ?_)
    case refine_2 => exact fin σ' H' ms (by omega) en k
    case refine_1 =>
      refine q_set (s := .dat (.int 41017)) en ed_int fun σ2 H2 en k2 => ?_
      replace k2 := k.trans k2
      refine q_seq ?_
      refine f_enumL (pa en rfl) (SqL.keep k2 hS) (fun i σ' H' => ∃ o : Nat, o < 2147483563 ∧ En none H' σ' [.adr a, .lst p (ms.map D.int), .any, .any, .any, .dat (nD o), .any] ∧ Kp none H H') ⟨41017, by decide, en, k2⟩ (fun i σ' H' ⟨_, _, _, k⟩ => SqL.keep k hS) (fun i T x σ' H' hx ⟨o, ho, en, k⟩ hT => ?_) fun σ' H' ⟨o, ho, en, k⟩ => ?_
      · obtain ⟨c, hc, rfl⟩ := getE_map hx
        have hi := (List.getElem?_eq_some_iff.mp hc).1
        have kn : Kp none H' (L2.upd H' T (.tup [.int (i : Nat), .int c])) := Kp.new hT
        refine g_two (d1 := nD i) (d2 := .int c) (en.mono kn) (.tup upd_same (.cons (.int _) (.cons (.int _) .nil))) fun σ3 en => ?_
        have hpos : (0 : Int) < 2147483563 := by decide
        refine s_set en (s := .dat (.int (((o : Int) * 45293 + c * 28949 + (i : Int) * 5119 + 23) % 2147483563))) (ed_iC (f := fun i j => i % j) (ed_intOf (ed_i (f := fun i j => i + j) (ed_i (f := fun i j => i + j) (ed_i (f := fun i j => i + j) (ed_iC (f := fun i j => i * j) (ed_var rfl) ed_int (.inr ⟨by decide, by decide⟩)) (ed_iC (f := fun i j => i * j) (ed_var rfl) ed_int (.inr ⟨by decide, by decide⟩))) (ed_iC (f := fun i j => i * j) (ed_var rfl) ed_int (.inr ⟨by decide, by decide⟩))) ed_int)) ed_int (by decide)) fun σ4 H4 en k4 => ?_
        generalize (o : Int) * 45293 + c * 28949 + (i : Int) * 5119 + 23 = z at en
        have z0 := Int.emod_nonneg z (show (2147483563 : Int) ≠ 0 by decide)
        have z1 := Int.emod_lt_of_pos z hpos
        refine ⟨(z % 2147483563).toNat, by omega, ?_, (k.trans kn).trans k4⟩
        have e : nD (z % 2147483563).toNat = .int (z % 2147483563) := by
          unfold nD
          congr 1
          omega
        rw [e]
        exact En.drops [2, 6] en
      · refine l_rng1 (n := 400) en (ea_c ed_int ea_nil) (by decide) (fun t σ' H' => ∃ (ms' : List Int) (o : Nat), ms'.length ≤ ms.length + t ∧ o < 2147483563 ∧ En none H' σ' [.adr a, .lst p (ms'.map D.int), .any, .any, .any, .dat (nD o), .any] ∧ Kp none H H') (fun H' en k' => ⟨ms, o, Nat.le_refl _, ho, en, k.trans k'⟩) (fun t σ' H' ht ⟨ms', o, hm', ho, en, k⟩ => ?_) fun σ' H' ⟨ms', o, hm', ho, en, k⟩ => fin σ' H' ms' (by omega) (En.drops [5] en) k
        have en := en.set 6 (v := .int (t : Nat)) (s := .dat (nD t)) (.dat (.int _))
        have hpos : (0 : Int) < 2147483563 := by decide
        have hb : -(2 ^ 64) < (o : Int) ∧ (o : Int) < 2 ^ 64 := ⟨by omega, by omega⟩
        refine q_set en (s := .dat (.int (((o : Int) * (o : Int) + (o : Int) * 50021 + (t : Int) * 3001 + 13) % 2147483563))) (ed_iC (f := fun i j => i % j) (ed_intOf (ed_i (f := fun i j => i + j) (ed_i (f := fun i j => i + j) (ed_i (f := fun i j => i + j) (ed_iC (f := fun i j => i * j) (ed_var rfl) (ed_var rfl) (.inl hb)) (ed_iC (f := fun i j => i * j) (ed_var rfl) ed_int (.inl hb))) (ed_iC (f := fun i j => i * j) (ed_var rfl) ed_int (.inr ⟨by decide, by decide⟩))) ed_int)) ed_int (by decide)) fun σ4 H4 en k4 => ?_
        generalize (o : Int) * (o : Int) + (o : Int) * 50021 + (t : Int) * 3001 + 13 = z at en
        have z0 := Int.emod_nonneg z (show (2147483563 : Int) ≠ 0 by decide)
        have z1 := Int.emod_lt_of_pos z hpos
        refine s_app en rfl (d := .int (z % 2147483563 / 256)) (ed_iC (f := fun i j => i / j) (ed_var rfl) ed_int (wide_div (b := 20) (by decide) (by decide) (by decide) (by decide))) (by rw [List.length_map]; omega) (by simp [noAl]) (k.trans k4) hp fun H5 en k5 _ => ?_
        refine ⟨ms' ++ [z % 2147483563 / 256], (z % 2147483563).toNat, by rw [List.length_append, List.length_singleton]; omega, by omega, ?_, k5⟩
        have e : nD (z % 2147483563).toNat = .int (z % 2147483563) := by
          unfold nD
          congr 1
          omega
        rw [e, List.map_append]
        exact En.drops [6] en
end
end Zk

-- part ZA9
namespace Zk
open PySem PySem.Spec PyProof.Rows L2 Zb Zr Zm RZ
def A_mixed : CA := fun r ss P => ∃ (a : Addr) (n : Nat) (ls : List Ln), r = some a ∧ ss = [.row a, .dat (prD n ls)] ∧ PrOk n ls ∧ P = fun s => s = .dat (.bl true)
def A_stays : CA := fun r ss P => ∃ (a : Addr) (n : Nat) (ls : List Ln), r = some a ∧ ss = [.row a, .dat (prD n ls), .dat (.tup (((call n ls).1.drop n).map loD)), .dat (.tup (((call n ls).2.drop n).map oD))] ∧ PrOk n ls ∧ P = fun s => s = .dat (.bl true)
def mixD (t : Nat) : D := .tup [.str "mix", .tup [nD t], .tup [qD (0, 1), qD (1, 1)]]
/-- lines with a mix among them -/
def MixLs (d : D) : Prop := ∃ ls : List (Str × List D), d = .tup (ls.map fun l => .tup (.str l.1 :: l.2)) ∧ ls.length ≤ 1000 ∧ (ls.all fun l => !decide (l.1 = ("mix" : Str))) = false
theorem mixLs {t : Nat} {ls : List Ln} {ms : List (Str × List D)} (hl : ls.length ≤ 60) (hm : ms.length ≤ 10) (ds : List D) (e : ds = (ls.map lD) ++ (mixD t :: ms.map fun l : Str × List D => D.tup (.str l.1 :: l.2))) : MixLs (.tup ds) := by
  refine ⟨ls.map lP ++ (((("mix" : Str), [D.tup [nD t], D.tup [qD (0, 1), qD (1, 1)]]) : Str × List D) :: ms), ?_, ?_, ?_⟩
  · rw [e, List.map_append, lP_eq]
    rfl
  · rw [List.length_append, List.length_map, List.length_cons]
    omega
  · rw [List.all_append, List.all_cons]
    have : (!decide (("mix" : Str) = ("mix" : Str))) = false := by decide +kernel
    rw [this, Bool.false_and, Bool.and_false]
section
variable {P : Program} {w : World} {K : PySem.W.Frag} {mg : Str → Option Value} {base : Heap} (T : Txt K mg)
include T
theorem ok_law_mixed (c_law_take : Cl P w K mg base 1 "_law_take" (Con 2 A_take)) (c_law_same : Cl P w K mg base 4 "_law_same" (Con 2 (A_same 2))) (c_law_ask : Cl P w K mg base 7 "_law_ask" (Con 2 A_ask)) : Cl P w K mg base 8 "_law_mixed" (Con 2 A_mixed) := by
  refine mkCl T.d_law_mixed sc_law_mixed (fun _ _ _ _ _ _ us hl => match us, hl with | [_, _], _ => rfl) Con.len (fun f cdv A outer s H vs Q E hr h => ?_)
  obtain ⟨r, ss, PP, hl, ⟨a, n, ls, rfl, rfl, hp, rfl⟩, hv, rk, hq⟩ := h
  have en := En.start (N := ["_law_row_here", "_law_program", "_law_mix", "_law_lines", "_law_word"]) hv rk
  refine ⟨_, (pss_cons (ps_set (i := 2) sc_law_mixed.nd rfl (Or.inl rfl) (pe_tup (pa_cons pe_str (pa_cons (pe_tup (pa_cons (pe_cl c_law_take hr (by decide) rfl (pa_cons (pv 0) (pa_cons (pe_ix (r := rIxT K) ix_tup (pv 1) pe_int (fun _ _ => rfl)) pa_nil))) pa_nil)) (pa_cons (pe_tup (pa_cons (pe_tup (pa_cons pe_int (pa_cons pe_int pa_nil))) (pa_cons (pe_tup (pa_cons pe_int (pa_cons pe_int pa_nil))) pa_nil))) pa_nil))))) (pss_cons (ps_set (i := 3) sc_law_mixed.nd rfl (Or.inl rfl) (pe_ix (r := rIxT K) ix_tup (pe_tup (pa_cons (pe_op op_catA (pe_ix (r := rIxT K) ix_tup (pv 1) pe_int (fun _ _ => rfl)) (pe_tup (pa_cons (pv 2) pa_nil))) (pa_cons (pe_op op_catA (pe_ix (r := rIxT K) ix_tup (pv 1) pe_int (fun _ _ => rfl)) (pe_tup (pa_cons (pv 2) (pa_cons (pe_tup (pa_cons pe_str (pa_cons (pe_tup (pa_cons pe_int (pa_cons pe_int pa_nil))) pa_nil))) pa_nil)))) (pa_cons (pe_tup (pa_cons (pv 2) pa_nil)) (pa_cons (pe_tup (pa_cons (pv 2) (pa_cons (pe_tup (pa_cons pe_str (pa_cons pe_int (pa_cons pe_int pa_nil)))) pa_nil))) pa_nil))))) (pe_cl c_law_take hr (by decide) rfl (pa_cons (pv 0) (pa_cons pe_int pa_nil))) (fun _ _ => rfl))) (pss_cons (ps_for PassesOwn.never rfl (pi_tup (pe_tup (pa_cons pe_str (pa_cons pe_str (pa_cons pe_str pa_nil))))) (pg_name (i := 4) sc_law_mixed.nd rfl (Or.inl rfl)) (pss_one (ps_if (pt_not (pt_val (pe_cl c_law_same hr (by decide) rfl (pa_cons (pe_cl c_law_ask hr (by decide) rfl (pa_cons (pv 4) (pa_cons (pe_tup (pa_cons (pe_ix (r := rIxT K) ix_tup (pv 1) pe_int (fun _ _ => rfl)) (pa_cons (pv 3) pa_nil))) pa_nil))) (pa_cons (pe_tup (pa_cons pe_str (pa_cons (pe_un un_neg pe_int) (pa_cons pe_str pa_nil)))) pa_nil))))) (pss_one (ps_ret pe_bl)) pss_nil))) (pss_one (ps_ret pe_bl))))), ?_⟩
  have n1 := hp.n1
  have m60 := hp.m60
  have e01 : ∀ {r : Option Addr} {G : List Sl} {i : Int}, Ed r (tTup (tCons (tC (.int i)) (tCons (tC (.int 1)) tNil))) G (qD (i, 1)) := fun {r G i} => ed_tup (ds := [.int i, .int 1]) (ea_cd ed_int (ea_cd ed_int ea_n))
  refine q_setP (P := fun s => ∃ t, s = .dat (mixD t)) en ((ev_tup (PP := fun ds => ∃ t, ds = [.str "mix", .tup [nD t], .tup [qD (0, 1), qD (1, 1)]]) ((ea_cons (P := fun s => s = .dat (.str "mix")) ed_str (ea_cons (ev_tup (PP := fun ds => ∃ t, ds = [nD t]) ((ea_cons (ev_take (n := n) (ev_row rfl) (ed_ix0 (ds := [lsD ls]) (ed_var rfl)) (by omega)) ea_nil).imp ?_) ?_) (ea_cons (P := fun s => s = .dat (.tup [qD (0, 1), qD (1, 1)])) (ed_tup (ea_cd e01 (ea_cd e01 ea_n))) ea_nil))).imp ?_) ?_).imp ?_) fun s2 σ2 H2 p2 en k2 => ?_
  · rintro ss ⟨s1, s2, rfl, ⟨t, _, rfl⟩, rfl⟩
    exact ⟨[nD t], rfl, t, rfl⟩
  · rintro ds ⟨t, rfl⟩
    exact Nat.le_of_ble_eq_true rfl
  · rintro ss ⟨s1, s2, rfl, rfl, s3, s4, rfl, ⟨ds, rfl, t, rfl⟩, s5, s6, rfl, rfl, rfl⟩
    exact ⟨[.str "mix", .tup [nD t], .tup [qD (0, 1), qD (1, 1)]], rfl, t, rfl⟩
  · rintro ds ⟨t, rfl⟩
    exact Nat.le_of_ble_eq_true rfl
  · rintro s ⟨ds, rfl, t, rfl⟩
    exact ⟨t, rfl⟩
  obtain ⟨t, rfl⟩ := p2
  have els : ∀ {r : Option Addr} {G : List Sl}, G[1]? = some (.dat (prD n ls)) → Ed r (tOp (rIxT K) (tVar 1) (tC (.int 1))) G (.tup (ls.map lD)) := fun h => ed_ix1 (c := nD n) (ds := []) (ed_var h)
  refine q_setP (P := fun s => ∃ d, s = .dat d ∧ MixLs d) en ((ev_pick (n := 4) (ds := [.tup (ls.map lD ++ [mixD t]), .tup (ls.map lD ++ [mixD t, .tup [.str "num", qD (1, 1)]]), .tup [mixD t], .tup [mixD t, .tup [.str "add", .int 0, .int 0]]]) (ed_tup (ea_cd (ed_catA (els rfl) (ed_tup (ea_cd (ed_var rfl) ea_n)) (by rw [List.length_map, List.length_singleton]; omega)) (ea_cd (ed_catA (els rfl) (ed_tup (ea_cd (ed_var rfl) (ea_cd (ed_tup (ea_cd ed_str (ea_cd e01 ea_n))) ea_n))) (by rw [List.length_map]; show ls.length + 2 ≤ 100000; omega)) (ea_cd (ed_tup (ea_cd (ed_var rfl) ea_n)) (ea_cd (ed_tup (ea_cd (ed_var rfl) (ea_cd (ed_tup (ea_cd ed_str (ea_cd ed_int (ea_cd ed_int ea_n)))) ea_n))) ea_n))))) (ev_take (n := 4) (ev_row rfl) ed_int (by decide)) (Nat.le_refl 4)).imp ?_) fun s3 σ3 H3 p3 en k3 => ?_
  · rintro s ⟨d, hd, rfl⟩
    refine ⟨d, rfl, ?_⟩
    simp only [List.mem_cons, List.not_mem_nil, or_false] at hd
    rcases hd with h | h | h | h
    · rw [h]
      exact mixLs (t := t) (ls := ls) (ms := []) m60 (by decide) _ rfl
    · rw [h]
      exact mixLs (t := t) (ls := ls) (ms := [(("num" : Str), [qD (1, 1)])]) m60 (show 1 ≤ 10 by decide) _ rfl
    · rw [h]
      exact mixLs (t := t) (ls := []) (ms := []) (by decide) (by decide) _ rfl
    · rw [h]
      exact mixLs (t := t) (ls := []) (ms := [(("add" : Str), [D.int 0, D.int 0])]) (by decide) (show 1 ≤ 10 by decide) _ rfl
  obtain ⟨d, rfl, ms, rfl, hml, hma⟩ := p3
  replace k3 := k2.trans k3
  refine q_seq (l_tup (ds := [.str "carried", .str "numbers", .str "counting"]) en (ed_tup (ea_cd ed_str (ea_cd ed_str (ea_cd ed_str ea_n)))) (fun Hb i σ' H' => En (some a) H' σ' [.row a, .dat (prD n ls), .dat (mixD t), .dat (.tup (ms.map fun l : Str × List D => D.tup (.str l.1 :: l.2))), .any] ∧ Kp (some a) H H' ∧ Kx Hb H') (fun Hb en k => ⟨en, k3.trans k, Kx.refl _⟩) (fun Hb i σ' H' ⟨_, _, k⟩ => k) (fun Hb i d v σ' H' kb hd hdt ⟨en, k, kx⟩ => ?_) fun Hb σ' H' kb ⟨en, k, kx⟩ => ?_)
  · obtain ⟨x, rfl, hx⟩ : ∃ x : Str, d = .str x ∧ (x = "carried" ∨ x = "numbers" ∨ x = "counting") := by
      have := List.mem_of_getElem? hd
      simp only [List.mem_cons, List.not_mem_nil, or_false] at this
      rcases this with h | h | h
      · exact ⟨_, h, .inl rfl⟩
      · exact ⟨_, h, .inr (.inl rfl)⟩
      · exact ⟨_, h, .inr (.inr rfl)⟩
    have en := en.set 4 (.dat hdt)
    refine s_ifF en ((eb_not (eb_B (ev_call' (ss := [.dat refD, .dat refD]) (ea_c (ev_call' (ss := [.dat (.str x), .dat (.tup [nD n, .tup (ms.map fun l : Str × List D => D.tup (.str l.1 :: l.2))])]) (ea_c (ed_var rfl) (ea_c (ed_tup (ea_cd (ed_ix0 (d := nD n) (ds := [lsD ls]) (ed_var rfl)) (ea_cd (ed_var rfl) ea_n))) ea_nil)) ⟨x, hx, .inr ⟨nD n, ms, rfl, hml, hma, rfl⟩⟩) (ea_c (ed_tup (ea_cd ed_str (ea_cd (ed_neg ed_int) (ea_cd ed_str ea_n)))) ea_nil)) ⟨refD, rfl, by decide, rfl, rfl⟩))).is rfl) fun H4 en k4 => ?_
    exact ⟨En.drops [4] en, k.trans k4, kx.trans k4.kx⟩
  · exact s_ret (D' := { nx := fun x H' => Q V.non H', rt := Q }) en ed_bl fun v H' s k' sv p => hq v H' s (k.trans k') sv p
theorem ok_law_stays (c_law_take : Cl P w K mg base 1 "_law_take" (Con 2 A_take)) (c_law_same : Cl P w K mg base 4 "_law_same" (Con 2 (A_same 2))) (c_run_lines : Cl P w K mg base 5 "run_lines" (Con 2 A_run_lines)) : Cl P w K mg base 6 "_law_stays" (Con 4 A_stays) := by
  refine mkCl T.d_law_stays sc_law_stays (fun _ _ _ _ _ _ us hl => match us, hl with | [_, _, _, _], _ => rfl) Con.len (fun f cdv A outer s H vs Q E hr h => ?_)
  obtain ⟨r, ss, PP, hl, ⟨a, n, ls, rfl, rfl, hp, rfl⟩, hv, rk, hq⟩ := h
  have en := En.start (N := ["_law_row_here", "_law_program", "_law_carried", "_law_numbers", "_law_which", "_law_point", "_law_top", "_law_moved", "_law_one", "_law_other", "_law_k", "_law_number_here"]) hv rk
  refine ⟨_, (pss_cons (ps_set (i := 5) sc_law_stays.nd rfl (Or.inl rfl) (pe_tupleOf rfl T.b_tuple (pe_lc (own := [("_law_which", 4)]) (g := gName 4) rfl sc_law_stays.nd (pi_range1 rfl T.b_range (pa_cons (pe_ix (r := rIxT K) ix_tup (pv 1) pe_int (fun _ _ => rfl)) pa_nil)) (blkOk_by (own := [("_law_which", 4)]) (N := ["_law_row_here", "_law_program", "_law_carried", "_law_numbers", "_law_which", "_law_point", "_law_top", "_law_moved", "_law_one", "_law_other", "_law_k", "_law_number_here"]) (sc := defScope s_law_stays) (by decide +kernel)) (fun _ _ _ _ _ => pg_name (i := 4) sc_law_stays.nd rfl (Or.inl rfl)) (fun _ _ _ _ _ => pts_nil) (fun _ _ _ _ _ => (pe_tup (pa_cons (pe_op op_sub (pe_cl c_law_take hr (by decide) rfl (pa_cons (pv 0) (pa_cons pe_int pa_nil))) pe_int) (pa_cons pe_int pa_nil))))))) (pss_cons (ps_set (i := 4) sc_law_stays.nd rfl (Or.inl rfl) (pe_cl c_law_take hr (by decide) rfl (pa_cons (pv 0) (pa_cons (pe_ix (r := rIxT K) ix_tup (pv 1) pe_int (fun _ _ => rfl)) pa_nil)))) (pss_cons (ps_set (i := 6) sc_law_stays.nd rfl (Or.inl rfl) (pe_ix (r := rIxT K) ix_tup (pe_ix (r := rIxT K) ix_tup (pv 5) (pv 4) (fun _ _ => rfl)) pe_int (fun _ _ => rfl))) (pss_cons (ps_set (i := 7) sc_law_stays.nd rfl (Or.inl rfl) (pe_op op_catA (pe_op op_catA (pe_slice sl_tupA (pv 5) po_none (po_some (pv 4))) (pe_tup (pa_cons (pe_tup (pa_cons (pe_ifExp (pt_cmpR op_gt (pv 6) pe_int (nomark _)) (pe_op op_sub (pv 6) pe_int) (pe_op op_add (pv 6) pe_int)) (pa_cons pe_int pa_nil))) pa_nil))) (pe_slice sl_tupA (pv 5) (po_some (pe_op op_add (pv 4) pe_int)) po_none))) (pss_cons (ps_par (i := 8) (j := 9) rfl sc_law_stays.nd rfl rfl (by decide) rfl rfl (pa_cons (pe_cl c_run_lines hr (by decide) rfl (pa_cons (pv 1) (pa_cons (pv 5) pa_nil))) (pa_cons (pe_cl c_run_lines hr (by decide) rfl (pa_cons (pv 1) (pa_cons (pv 7) pa_nil))) pa_nil)) (by rfl)) (pss_cons (ps_for PassesOwn.never rfl (pi_enumT (by rfl) T.b_enumerate (pa_cons (pv 3) pa_nil)) (pg_tup (n := 2) rfl (pgs_cons (pg_name (i := 10) sc_law_stays.nd rfl (Or.inl rfl)) (pgs_cons (pg_name (i := 11) sc_law_stays.nd rfl (Or.inl rfl)) pgs_nil))) (pss_cons (ps_if (PW.pt (pw_and (pt_cmpR (r := rIn K true) op_notIn_seq (pv 4) (pe_ix (r := rIxT K) ix_tup (pv 2) (pv 10) (fun _ _ => rfl)) (by rfl)) (pw_and1 (pt_not (pt_val (pe_cl c_law_same hr (by decide) rfl (pa_cons (pe_ix (r := rIxT K) ix_tup (pv 9) (pv 10) (fun _ _ => rfl)) (pa_cons (pe_ix (r := rIxT K) ix_tup (pv 8) (pv 10) (fun _ _ => rfl)) pa_nil)))))))) (pss_one (ps_ret pe_bl)) pss_nil) (pss_one (ps_if (PW.pt (pw_and (pt_cmp (pc_notN (pv 11)) rfl) (pw_and1 (pt_not (pt_val (pe_cl c_law_same hr (by decide) rfl (pa_cons (pe_ix (r := rIxT K) ix_tup (pv 8) (pv 10) (fun _ _ => rfl)) (pa_cons (pv 11) pa_nil)))))))) (pss_one (ps_ret pe_bl)) pss_nil)))) (pss_one (ps_ret pe_bl)))))))), ?_⟩
  have n1 := hp.n1
  have n8 := hp.n8
  have m60 := hp.m60
  have en0 : ∀ {r : Option Addr} {G : List Sl}, G[1]? = some (.dat (prD n ls)) → Ed r (tOp (rIxT K) (tVar 1) (tC (.int 0))) G (nD n) := fun h => ed_ix0 (ds := [lsD ls]) (ed_var h)
  refine q_setP (P := fun s => ∃ pt : List Qt, s = .dat (.tup (pt.map qD)) ∧ pt.length = n ∧ ∀ q ∈ pt, q.2 = 1 ∧ q.1.natAbs ≤ 4) en ((ev_tupOf (el_rng1P (n := n) (PD := fun d => ∃ q : Qt, d = qD q ∧ q.2 = 1 ∧ q.1.natAbs ≤ 4) (ea_c (en0 rfl) ea_nil) (by omega) fun i _ => ?_)).imp ?_) fun s1 σ1 H1 p1 en k1 => ?_
  · refine (ev_tup (PP := fun ds => ∃ q : Qt, ds = [.int q.1, .int q.2] ∧ q.2 = 1 ∧ q.1.natAbs ≤ 4) ((ea_cons (ev_op (P1 := Dr 9) (P2 := fun s => s = .dat (.int 4)) (P := fun s => ∃ t : Nat, t < 9 ∧ s = .dat (.int ((t : Int) - 4))) (ev_take (n := 9) (ev_row rfl) ed_int (by decide)) ed_int ?_) (ea_cons (P := fun s => s = .dat (.int 1)) ed_int ea_nil)).imp ?_) ?_).imp ?_
    · rintro s t ⟨k, hk, rfl⟩ rfl
      intro H x y hx hy rk Q q
      exact rd_int (f := fun i j => i - j) H x y hx hy rk Q fun v H2 u k2 sv pu => q v H2 u k2 sv ⟨k, hk, pu⟩
    · rintro ss ⟨s1, s2, rfl, ⟨t, ht, rfl⟩, s3, s4, rfl, rfl, rfl⟩
      exact ⟨[.int ((t : Int) - 4), .int 1], rfl, ((t : Int) - 4, 1), rfl, rfl, by show ((t : Int) - 4).natAbs ≤ 4; omega⟩
    · rintro ds ⟨q, rfl, _⟩
      exact Nat.le_of_ble_eq_true rfl
    · rintro s ⟨ds, rfl, q, rfl, h1, h2⟩
      exact ⟨qD q, rfl, q, rfl, h1, h2⟩
  · rintro s ⟨ds, rfl, hlen, hall⟩
    have key : ∀ ds : List D, (∀ d ∈ ds, ∃ q : Qt, d = qD q ∧ q.2 = 1 ∧ q.1.natAbs ≤ 4) → ∃ pt : List Qt, ds = pt.map qD ∧ ∀ q ∈ pt, q.2 = 1 ∧ q.1.natAbs ≤ 4 := by
      intro ds
      induction ds with
      | nil => intro _; exact ⟨[], rfl, fun q h => (nomatch h)⟩
      | cons d ds ih =>
        intro h
        obtain ⟨pt, e, hpt⟩ := ih fun d hd => h d (List.mem_cons_of_mem _ hd)
        obtain ⟨q, e2, h2⟩ := h d (List.mem_cons_self ..)
        refine ⟨q :: pt, by rw [e, e2]; rfl, fun q' hq' => ?_⟩
        rcases List.mem_cons.mp hq' with z | z
        · rw [z]
          exact h2
        · exact hpt q' z
    obtain ⟨pt, e, hpt⟩ := key ds hall
    refine ⟨pt, by rw [e], ?_, hpt⟩
    rw [← hlen, e, List.length_map]
  obtain ⟨pt, rfl, hptl, hpt⟩ := p1
  refine q_setP en (ev_take (n := n) (ev_row rfl) (en0 rfl) (by omega)) fun s2 σ2 H2 p2 en k2 => ?_
  obtain ⟨j, hj, rfl⟩ := p2
  have hjl : j < pt.length := by omega
  have gj : (pt.map qD)[j]? = some (.tup [.int (pt.getD j (0, 1)).1, .int (pt.getD j (0, 1)).2]) := get_map (f := qD) hjl
  have hqj := hpt _ (getD_mem (d := ((0 : Int), (1 : Int))) hjl)
  generalize hx : pt.getD j (0, 1) = x at gj hqj
  refine q_set (s := .dat (.int x.1)) en (ed_ix0 (ed_ixT (ed_var rfl) (ed_var rfl) gj)) fun σ3 H3 en k3 => ?_
  have hset : pt.take j ++ [((if x.1 > 0 then x.1 - 1 else x.1 + 1), (1 : Int))] ++ pt.drop (j + 1) = pt.set j ((if x.1 > 0 then x.1 - 1 else x.1 + 1), (1 : Int)) := by
    rw [List.set_eq_take_append_cons_drop, if_pos hjl, List.append_assoc]
    rfl
  refine q_set (s := .dat (.tup ((pt.set j ((if x.1 > 0 then x.1 - 1 else x.1 + 1), (1 : Int))).map qD))) en (Ed.is (ed_catA (ds := (pt.map qD).take j ++ [qD ((if x.1 > 0 then x.1 - 1 else x.1 + 1), (1 : Int))]) (es := (pt.map qD).drop (j + 1)) (ed_catA (ed_takeT (k := j) (ed_var rfl) (eo_some (ed_var rfl)) (by rw [List.length_map]; exact hjl)) (ed_tup (ea_cd (ed_tup (ds := [.int (if x.1 > 0 then x.1 - 1 else x.1 + 1), .int 1]) (ea_cd (ev_if (eb_test (ed_c (f := fun i j => decide (i > j)) (ed_var rfl) ed_int)) (fun e => ?_) fun e => ?_) (ea_cd ed_int ea_n))) ea_n)) ?_) (ed_dropT (k := j + 1) (ed_var rfl) (eo_some (Ed.is (ed_i (f := fun i j => i + j) (ed_var rfl) ed_int) rfl)) (by omega) (by rw [List.length_map]; omega)) ?_) ?_) fun σ4 H4 en k4 => ?_
  · rw [if_pos (of_decide_eq_true e)]
    exact ed_i (f := fun i j => i - j) (ed_var rfl) ed_int
  · rw [if_neg (of_decide_eq_false e)]
    exact ed_i (f := fun i j => i + j) (ed_var rfl) ed_int
  · rw [List.length_take, List.length_map, List.length_singleton]
    omega
  · rw [List.length_append, List.length_take, List.length_drop, List.length_map, List.length_singleton]
    omega
  · rw [← hset, List.map_append, List.map_append, List.map_take, List.map_drop]
    rfl
  generalize hx' : (((if x.1 > 0 then x.1 - 1 else x.1 + 1), (1 : Int)) : Qt) = x' at en hset
  have hx5 : x'.1.natAbs ≤ 5 ∧ x'.2 = 1 := by
    rw [← hx']
    refine ⟨?_, rfl⟩
    show (if x.1 > 0 then x.1 - 1 else x.1 + 1).natAbs ≤ 5
    split <;> omega
  have okq : ∀ q : Qt, q.2 = 1 → q.1.natAbs ≤ 5 → QOk q ∧ QLt q 3 0 := fun q h1 h2 => by
    refine ⟨⟨by rw [h1]; decide, by rw [h1]; exact Int.gcd_one ..⟩, ⟨Nat.le_trans h2 (by decide), by rw [h1]; decide⟩⟩
  have pk1 : PtOk n pt := ⟨hptl, fun q hq => okq q (hpt q hq).1 (Nat.le_trans (hpt q hq).2 (by decide))⟩
  have pk2 : PtOk n (pt.set j x') := ⟨by rw [List.length_set, hptl], fun q hq => by
    rcases List.mem_or_eq_of_mem_set hq with h | h
    · exact pk1.2 q h
    · rw [h]
      exact okq _ hx5.2 hx5.1⟩
  have hjj : ∀ i, i ≠ j → pt.getD i (0, 1) = (pt.set j x').getD i (0, 1) := fun i hi => by
    rw [List.getD_eq_getElem?_getD, List.getD_eq_getElem?_getD, List.getElem?_set_ne (Ne.symm hi)]
  refine q_par en (ea_c (ev_call' (ss := [.dat (prD n ls), .dat (.tup (pt.map qD))]) (ea_c (ed_var rfl) (ea_c (ed_var rfl) ea_nil)) ⟨n, ls, pt, rfl, hp, pk1, rfl⟩) (ea_c (ev_call' (ss := [.dat (prD n ls), .dat (.tup ((pt.set j x').map qD))]) (ea_c (ed_var rfl) (ea_c (ed_var rfl) ea_nil)) ⟨n, ls, pt.set j x', rfl, hp, pk2, rfl⟩) ea_nil)) fun σ5 H5 en k5 => ?_
  replace k5 := (((k1.trans k2).trans k3).trans k4).trans k5
  have hc := ci hp.rn n8
  have l1 := vrun_len pt ls
  have l2 := vrun_len (pt.set j x') ls
  rw [pk1.1] at l1
  rw [pk2.1] at l2
  refine q_seq (l_enumT (ds := ((call n ls).2.drop n).map oD) en (ea_c (ed_var rfl) ea_nil) (fun Hb i σ' H' => En (some a) H' σ' [.row a, .dat (prD n ls), .dat (.tup (((call n ls).1.drop n).map loD)), .dat (.tup (((call n ls).2.drop n).map oD)), .dat (nD j), .any, .any, .any, .dat (.tup (((vrun pt ls).drop n).map qD)), .dat (.tup (((vrun (pt.set j x') ls).drop n).map qD)), .any, .any] ∧ Kp (some a) H H' ∧ Kx Hb H') (fun Hb en k => ⟨En.drops [5, 6, 7] en, k5.trans k, Kx.refl _⟩) (fun Hb i σ' H' ⟨_, _, k⟩ => k) (fun Hb i d v σ' H' H'' kb hd ⟨en, k, kx⟩ kp hdt => ?_) fun Hb σ' H' kb ⟨en, k, kx⟩ => ?_)
  · obtain ⟨o, ho, rfl⟩ := getE_map hd
    have hi := (List.getElem?_eq_some_iff.mp ho).1
    rw [List.length_drop, hc.l2] at hi
    have hin : n + i < n + ls.length := by omega
    have eo : ((call n ls).at (n + i)).2 = o := by
      rw [List.getElem?_drop] at ho
      show (call n ls).2.getD (n + i) none = o
      rw [List.getD_eq_getElem?_getD, ho]
      rfl
    have dr : ∀ {α : Type} (l : List α) (d : α), n + i < l.length → (l.drop n)[i]? = some (l.getD (n + i) d) := fun l d h => by
      rw [List.getElem?_drop, List.getD_eq_getElem?_getD, List.getElem?_eq_getElem h]
      rfl
    have gl : (((call n ls).1.drop n).map loD)[i]? = some (loD ((call n ls).at (n + i)).1) := by
      rw [List.getElem?_map, dr _ [] (by rw [hc.l1]; exact hin)]
      rfl
    have gv : ∀ p : List Qt, (vrun p ls).length = n + ls.length → (((vrun p ls).drop n).map qD)[i]? = some (qD ((vrun p ls).getD (n + i) (0, 1))) := fun p h => by
      rw [List.getElem?_map, dr _ (0, 1) (by rw [h]; exact hin)]
      rfl
    refine g_two (en.mono kp) hdt fun σ6 en => ?_
    replace k := k.trans kp
    replace kx := kx.trans kp.kx
    refine q_pass en ((eb_and (b := false) (eb_test (ed_notInN (ed_var rfl) (ed_ixT (ed_var rfl) (ed_var rfl) gl))) fun h => Eb.is (eb_not (eb_B (ev_call' (ss := [.dat (qD ((vrun pt ls).getD (n + i) (0, 1))), .dat (qD ((vrun pt ls).getD (n + i) (0, 1)))]) (ea_c (Ed.is (ed_ixT (ed_var rfl) (ed_var rfl) (gv _ l2)) ?_) (ea_c (ed_ixT (ed_var rfl) (ed_var rfl) (gv _ l1)) ea_nil)) ⟨qD ((vrun pt ls).getD (n + i) (0, 1)), rfl, by show 1 ≤ 2; decide, rfl, rfl⟩))) rfl).is (Bool.and_false _)) fun H7 en k7 => ?_
    · have hnj : j ∉ ((call n ls).at (n + i)).1 := by simpa using h
      rw [stays_val n8 pk1 pk2 hjj hp.rn (n + i) hin hnj]
    refine s_ifF en ((eb_and (b := false) (eb_test (ed_notN (ed_var rfl))) fun h => Eb.is (eb_not (eb_B (ev_call' (ss := [.dat (oD o), .dat (oD o)]) (ea_c (Ed.is (ed_ixT (ed_var rfl) (ed_var rfl) (gv _ l1)) ?e1) (ea_c (ed_var rfl) ea_nil)) ⟨oD o, ?e2, ?e3, rfl, rfl⟩))) rfl).is (Bool.and_false _)) fun H8 en k8 => ?e4
    case e1 =>
      cases o with
      | none => cases h
      | some q =>
        rw [num_val n8 pk1 hp.rn (n + i) hin q eo]
        rfl
    case e2 => cases o <;> rfl
    case e3 =>
      cases o with
      | none => exact Nat.zero_le _
      | some q => exact (show 1 ≤ 2 by decide)
    case e4 => exact ⟨En.drops [10, 11] en, (k.trans k7).trans k8, (kx.trans k7.kx).trans k8.kx⟩
  · exact s_ret (D' := { nx := fun x H' => Q V.non H', rt := Q }) en ed_bl fun v H' s k' sv p => hq v H' s (k.trans k') sv p
end
end Zk

-- part ZB1
namespace Zk
open PySem PySem.Spec PyProof.Rows L2 Zb Zr Zm RZ
section
variable {X : Cx} {CX : CXT} {k j : Nat} {sp : Sp} {x p : Str} {np kpos pos : Pos} {e : Expr} {te : TE}
/-- f(p = e) -/
theorem pe_kw1 (c : ClX X.prog X.w X.K X.mg X.base k x p sp) (hr : Room j X.A) (hk : k ≤ j) (hg : Gl X x) (he : PE X e te) (hdb : (x == ("__debug__" : Str)) = false := by decide) :
    PE X (.Call (.Name x np) [] [⟨some p, e, kpos⟩] pos) (tCallN 0 1 sp (fun _ zs => zs) E0 tNil (tCons te tNil)) := by
  obtain ⟨f, fd, F, hm, kp, _, hb⟩ := c.ex
  have hkw : PK X [⟨some p, e, kpos⟩] (tCons te tNil) := pk_cons he pk_nil
  refine ⟨fun pins s σ H Q I h => ?_⟩
  refine wpAny_Call_Name_kw (ld_glob I hg hm ?_ hdb)
  refine PySem.W.callWith_KW0 (h₀ := X.base) I.ok.mod.kin kp rfl ?_ rfl
  have h' : tCons te tNil σ H (fun zs H2 => ([] : List V).length = 0 ∧ zs.length = [p].length ∧ sp zs H2 Q E0) := h
  refine thn (hkw.run pos pins s σ H _ I h') fun ws s2 ⟨zs, H2, I2, rz, l1, l2, q2⟩ => ⟨I2.kIn, ?_⟩
  exact run_fnN (us := []) (vs := []) (ks := [p]) F (hr.mono hk) hb passL I2 .nil rz rfl l2 q2
end
section
variable {r : Option Addr} {K : PySem.W.Frag} {G : List Sl} {σ : L2.St} {H : Hp} {te : TE} {tt : TT} {u t1 t2 : TS} {D' : Ends} {i j l k : Nat}
theorem ev_kw {A : CA} {B : Sp} {E : XK} {s : Sl} {P : Sl → Prop} (h : Ev r te G (fun x => x = s)) (hA : A r [s] P) : Ev r (tCallN 0 1 (ConX 1 A B) (fun _ zs => zs) E tNil (tCons te tNil)) G P := fun σ H e Q q => by
  show tCons te tNil σ H fun zs H2 => ([] : List V).length = 0 ∧ zs.length = 1 ∧ ConX 1 A B zs H2 Q E
  refine ea_c h ea_nil σ H e _ fun vs H2 ss k2 sv pv => ?_
  subst pv
  exact ⟨rfl, sv.length, .inl ⟨r, [s], P, sv.length, hA, sv, k2.rk e.rk, fun v H3 s' k3 s3 p3 => q v H3 s' (k2.trans k3) s3 p3⟩⟩
theorem q_asgH (h : te σ H fun v H' => u D' (σ.set i (some v)) H') : tSeq (tAsg te (gName i)) u D' σ H := h
theorem q_ifJ3 (J : L2.St → Hp → Prop) {P : Bool → Prop} (e : En r H σ G) (h : Et r tt G P) (k1 : ∀ nx : L2.St → Hp → Prop, (∀ σ' H', J σ' H' → nx σ' H') → ∀ H', En r H' σ G → Kp r H H' → t1 { D' with nx := nx } σ H') (k2 : ∀ nx : L2.St → Hp → Prop, (∀ σ' H', J σ' H' → nx σ' H') → ∀ H', En r H' σ G → Kp r H H' → t2 { D' with nx := nx } σ H') (k3 : ∀ σ' H', J σ' H' → u D' σ' H') : tSeq (tIfS tt t1 t2) u D' σ H :=
  s_if (D' := { D' with nx := u D' }) e h (fun _ H' e' k' => k1 _ k3 H' e' k') fun _ H' e' k' => k2 _ k3 H' e' k'
theorem s_fourS {P4 : Sl → Sl → Sl → Sl → Prop} (e : En r H σ G) (h : Ev r te G (fun s => ∃ s1 s2 s3 s4, s = .tl [s1, s2, s3, s4] ∧ P4 s1 s2 s3 s4)) (kk : ∀ s1 s2 s3 s4 σ' H', P4 s1 s2 s3 s4 → En r H' σ' ((((G.set i s1).set j s2).set l s3).set k s4) → Kp r H H' → D'.nx σ' H') : tAsg te (gTup K 4 (gCons (gName i) (gCons (gName j) (gCons (gName l) (gCons (gName k) gNil))))) D' σ H :=
  h σ H e _ fun v H2 s k2 sv p => by
    obtain ⟨s1, s2, s3, s4, rfl, pp⟩ := p
    cases sv with
    | tl ha hd =>
      rename_i a xs
      cases hd with
      | cons h1 r1 =>
        cases r1 with
        | cons h2 r2 =>
          cases r2 with
          | cons h3 r3 =>
            cases r3 with
            | cons h4 r4 =>
              cases r4
              exact ⟨a, _, rfl, SqT.of ha, rfl, _, _, rfl, _, _, rfl, _, _, rfl, _, _, rfl, rfl, kk s1 s2 s3 s4 _ H2 pp (((((e.mono k2).set i h1).set j h2).set l h3).set k h4) k2⟩
end
theorem fine_lo (l : List Nat) : dFine (loD l) = true ∧ dDep (loD l) = 1 := by
  have h : ∀ l : List Nat, fines (l.map nD) = true ∧ deps (l.map nD) = 0 := by
    intro l
    induction l with
    | nil => exact ⟨rfl, rfl⟩
    | cons n l ih =>
      refine ⟨?_, ?_⟩
      · show (true && fines (l.map nD)) = true
        rw [ih.1]
        rfl
      · show max 0 (deps (l.map nD)) = 0
        rw [ih.2]
        rfl
  refine ⟨(h l).1, ?_⟩
  show deps (l.map nD) + 1 = 1
  rw [(h l).2]
theorem fine_map {α : Type} {f : α → D} (hf : ∀ x, dFine (f x) = true ∧ dDep (f x) ≤ 1) (l : List α) : dFine (.tup (l.map f)) = true ∧ dDep (.tup (l.map f)) ≤ 2 := by
  have h : ∀ l : List α, fines (l.map f) = true ∧ deps (l.map f) ≤ 1 := by
    intro l
    induction l with
    | nil => exact ⟨rfl, Nat.zero_le _⟩
    | cons n l ih =>
      refine ⟨?_, ?_⟩
      · show (dFine (f n) && fines (l.map f)) = true
        rw [(hf n).1, ih.1]
        rfl
      · exact Nat.max_le.mpr ⟨(hf n).2, ih.2⟩
  exact ⟨(h l).1, Nat.succ_le_succ (h l).2⟩
theorem fine_o (o : Option Qt) : dFine (oD o) = true ∧ dDep (oD o) ≤ 1 := by
  cases o with
  | none => exact ⟨rfl, Nat.zero_le _⟩
  | some q => exact ⟨rfl, Nat.le_refl _⟩
theorem mkFn {P : Program} {w : World} {K : PySem.W.Frag} {mg : Str → Option Value} {base : Heap} {x : Str} {st : Stmt} {N ps : List Str} {k : Nat} {sp : Sp} {f : Addr} {fd : FuncData} (F : FunD K x x (defArgs st) (defBody st) (defScope st) [] [] f fd) (S : FnScope N ps (defScope st)) (len : ∀ vs H Q E, sp vs H Q E → vs.length = ps.length)
    (hbody : ∀ (f : Addr) (cdv : Value) (A : Around) (outer : List Env) (s : Shared) (H : Hp) (vs : List V) (Q : VK) (E : XK), Room k (A.deeper (envOfC x (defScope st) s.heap.objs.size f cdv)) → sp vs H Q E →
      ∃ t, PSs (cxOf CX0 P w K mg base N x (defScope st) f cdv A outer s H E).nox (defBody st) t ∧ t { nx := fun _ H' => Q .non H', rt := Q } (L2.start N vs) H) : FnOk P w K mg base CX0 (k + 1) f fd ps sp :=
  F.ok S len fun cdv A outer s H vs Q E hr h => by
    obtain ⟨t, h1, h2⟩ := hbody f cdv A outer s H vs Q E hr h
    exact ⟨t, h1.nox, h2⟩
def sp_law (K : PySem.W.Frag) : Sp := fun vs H Q _ => ∃ (a : Addr) (ns : List Int), vs = [.ref a] ∧ ns.length ≤ 63 ∧ SqL K H a (ns.map V.int) ∧ ∀ H', Q (.bl true) H'
section
variable {P : Program} {w : World} {K : PySem.W.Frag} {mg : Str → Option Value} {base : Heap} {C : Addr} (T : Txt K mg)
include T
theorem ok_law {fL : Addr} {fdL : FuncData} (FL : FunD K "law" "law" (defArgs s_law) (defBody s_law) (defScope s_law) [] [] fL fdL) (c_law_row : Cl P w K mg base 1 "_law_row" (sp_row K)) (c_law_take : Cl P w K mg base 1 "_law_take" (Con 2 A_take)) (c_law_long : Cl P w K mg base 4 "_law_long" (Con 3 A_gen)) (c_law_short : Cl P w K mg base 5 "_law_short" (Con 3 A_gen9)) (c_law_counting : Cl P w K mg base 1 "_law_counting" (Con 3 A_counts))
    (c_law_same : Cl P w K mg base 4 "_law_same" (Con 2 (A_same 2))) (c_law_ask : Cl P w K mg base 7 "_law_ask" (Con 2 A_ask)) (c_law_mixed : Cl P w K mg base 8 "_law_mixed" (Con 2 A_mixed)) (c_law_stays : Cl P w K mg base 6 "_law_stays" (Con 4 A_stays))
    (c_carried_of : ClX P w K mg base 6 "carried_of" "program" (ConX 1 A_carried (MixB C))) (c_numbers_of : ClX P w K mg base 6 "numbers_of" "program" (ConX 1 A_numbers (MixB C))) (c_counting_of : ClX P w K mg base 6 "counting_of" "program" (ConX 1 A_counting (MixB C))) :
    FnOk P w K mg base CX0 9 fL fdL ["_law_script"] (sp_law K) := by
  refine mkFn FL sc_law (fun vs H Q E h => ?_) (fun f cdv A outer s H vs Q E hr h => ?_)
  · obtain ⟨a, ns, rfl, _⟩ := h
    rfl
  obtain ⟨a, ns, rfl, h63, hS, hq⟩ := h
  refine ⟨_, (pss_cons (ps_set (i := 1) sc_law.nd rfl (Or.inl rfl) (pe_cl c_law_row hr (by decide) rfl (pa_cons (pv 0) pa_nil))) (pss_cons (ps_par (i := 2) (j := 3) rfl sc_law.nd rfl rfl (by decide) rfl rfl (pa_cons (pe_op op_add pe_int (pe_cl c_law_take hr (by decide) rfl (pa_cons (pv 1) (pa_cons pe_int pa_nil)))) (pa_cons (pe_op op_add pe_int (pe_cl c_law_take hr (by decide) rfl (pa_cons (pv 1) (pa_cons pe_int pa_nil)))) pa_nil)) (by rfl)) (pss_cons (ps_if (pt_cmpR op_eq (pe_cl c_law_take hr (by decide) rfl (pa_cons (pv 1) (pa_cons pe_int pa_nil))) pe_int (nomark _)) (pss_cons (ps_par (i := 2) (j := 3) rfl sc_law.nd rfl rfl (by decide) rfl rfl (pa_cons (pe_op op_add pe_int (pe_cl c_law_take hr (by decide) rfl (pa_cons (pv 1) (pa_cons pe_int pa_nil)))) (pa_cons (pe_op op_add pe_int (pe_cl c_law_take hr (by decide) rfl (pa_cons (pv 1) (pa_cons pe_int pa_nil)))) pa_nil)) (by rfl)) (pss_one (ps_asg (pe_cl c_law_long hr (by decide) rfl (pa_cons (pv 1) (pa_cons (pv 2) (pa_cons (pv 3) pa_nil)))) (pg_tup (n := 4) rfl (pgs_cons (pg_name (i := 4) sc_law.nd rfl (Or.inl rfl)) (pgs_cons (pg_name (i := 5) sc_law.nd rfl (Or.inl rfl)) (pgs_cons (pg_name (i := 6) sc_law.nd rfl (Or.inl rfl)) (pgs_cons (pg_name (i := 7) sc_law.nd rfl (Or.inl rfl)) pgs_nil)))))))) (pss_one (ps_asg (pe_cl c_law_short hr (by decide) rfl (pa_cons (pv 1) (pa_cons (pv 2) (pa_cons (pv 3) pa_nil)))) (pg_tup (n := 4) rfl (pgs_cons (pg_name (i := 4) sc_law.nd rfl (Or.inl rfl)) (pgs_cons (pg_name (i := 5) sc_law.nd rfl (Or.inl rfl)) (pgs_cons (pg_name (i := 6) sc_law.nd rfl (Or.inl rfl)) (pgs_cons (pg_name (i := 7) sc_law.nd rfl (Or.inl rfl)) pgs_nil)))))))) (pss_cons (ps_par (i := 8) (j := 9) rfl sc_law.nd rfl rfl (by decide) rfl rfl (pa_cons (pe_tup (pa_cons (pv 2) (pa_cons (pv 4) pa_nil))) (pa_cons (pe_tupleOf rfl T.b_tuple (pe_slice sl_list (pv 5) (po_some (pv 2)) po_none)) pa_nil)) (by rfl)) (pss_cons (ps_par (i := 6) (j := 10) rfl sc_law.nd rfl rfl (by decide) rfl rfl (pa_cons (pe_tupleOf rfl T.b_tuple (pe_slice sl_list (pv 6) (po_some (pv 2)) po_none)) (pa_cons (pe_cl c_law_counting hr (by decide) rfl (pa_cons (pv 2) (pa_cons (pv 4) (pa_cons (pv 7) pa_nil)))) pa_nil)) (by rfl)) (pss_cons (ps_for PassesOwn.never rfl (pi_range1 rfl T.b_range (pa_cons pe_int pa_nil)) (pg_name (i := 11) sc_law.nd rfl (Or.inl rfl)) (pss_cons (ps_if (pt_not (pt_val (pe_cl c_law_same hr (by decide) rfl (pa_cons (pe_cl c_law_ask hr (by decide) rfl (pa_cons pe_str (pa_cons (pv 8) pa_nil))) (pa_cons (pv 10) pa_nil))))) (pss_one (ps_ret pe_bl)) pss_nil) (pss_one (ps_if (PW.pt (pw_or (pt_not (pt_val (pe_cl c_law_same hr (by decide) rfl (pa_cons (pe_cl c_law_ask hr (by decide) rfl (pa_cons pe_str (pa_cons (pv 8) pa_nil))) (pa_cons (pv 9) pa_nil))))) (pw_or1 (pt_not (pt_val (pe_cl c_law_same hr (by decide) rfl (pa_cons (pe_cl c_law_ask hr (by decide) rfl (pa_cons pe_str (pa_cons (pv 8) pa_nil))) (pa_cons (pv 6) pa_nil)))))))) (pss_one (ps_ret pe_bl)) pss_nil)))) (pss_cons (ps_if (PW.pt (pw_or (pt_not (pt_val (pe_cl c_law_same hr (by decide) rfl (pa_cons (pe_kw1 c_carried_of hr (by decide) rfl (pv 8)) (pa_cons (pv 9) pa_nil))))) (pw_or1 (pt_not (pt_val (pe_cl c_law_same hr (by decide) rfl (pa_cons (pe_kw1 c_numbers_of hr (by decide) rfl (pv 8)) (pa_cons (pv 6) pa_nil)))))))) (pss_one (ps_ret pe_bl)) pss_nil) (pss_cons (ps_if (PW.pt (pw_or (pt_not (pt_val (pe_cl c_law_same hr (by decide) rfl (pa_cons (pe_kw1 c_counting_of hr (by decide) rfl (pv 8)) (pa_cons (pv 10) pa_nil))))) (pw_or1 (pt_not (pt_val (pe_cl c_law_mixed hr (by decide) rfl (pa_cons (pv 1) (pa_cons (pv 8) pa_nil)))))))) (pss_one (ps_ret pe_bl)) pss_nil) (pss_one (ps_ret (pe_cl c_law_stays hr (by decide) rfl (pa_cons (pv 1) (pa_cons (pv 8) (pa_cons (pv 9) (pa_cons (pv 6) pa_nil))))))))))))))), ?_⟩
  have en : En none H (L2.start ["_law_script", "_law_row_here", "_law_size", "_law_many", "_law_lines", "_law_lots", "_law_numbers", "_law_nought", "_law_program", "_law_carried", "_law_counting_here", "_law_turn"] [.ref a]) [.adr a, .any, .any, .any, .any, .any, .any, .any, .any, .any, .any, .any] := En.start (ss := [.adr a]) (.cons (.adr a) .nil) fun a z => nomatch z
  refine q_asgH ⟨.ref a, rfl, a, ns, rfl, h63, hS, fun p H1 hp k1 row => ?_⟩
  have en1 : En (some p) H1 ((L2.start ["_law_script", "_law_row_here", "_law_size", "_law_many", "_law_lines", "_law_lots", "_law_numbers", "_law_nought", "_law_program", "_law_carried", "_law_counting_here", "_law_turn"] [.ref a]).set 1 (some (.ref p))) [.adr a, .row p, .any, .any, .any, .any, .any, .any, .any, .any, .any, .any] := by
    have e : En (some p) H1 (L2.start ["_law_script", "_law_row_here", "_law_size", "_law_many", "_law_lines", "_law_lots", "_law_numbers", "_law_nought", "_law_program", "_law_carried", "_law_counting_here", "_law_turn"] [.ref a]) [.adr a, .any, .any, .any, .any, .any, .any, .any, .any, .any, .any, .any] := En.start (ss := [.adr a]) (.cons (.adr a) .nil) fun b z => by
      cases z
      exact row
    exact e.set 1 (.row rfl row)
  show tSeq _ _ _ ((L2.start ["_law_script", "_law_row_here", "_law_size", "_law_many", "_law_lines", "_law_lots", "_law_numbers", "_law_nought", "_law_program", "_law_carried", "_law_counting_here", "_law_turn"] [.ref a]).set 1 (some (.ref p))) H1
  generalize (L2.start ["_law_script", "_law_row_here", "_law_size", "_law_many", "_law_lines", "_law_lots", "_law_numbers", "_law_nought", "_law_program", "_law_carried", "_law_counting_here", "_law_turn"] [.ref a]).set 1 (some (.ref p)) = σ1 at en1 ⊢
  have drw : ∀ {G : List Sl} {E : XK} {m : Nat} {mi bi : Int} {te : TE}, G[1]? = some (.row p) → Ed (some p) te G (.int mi) → mi = (m : Int) → 0 < m → ∀ b : Nat, bi = (b : Int) → Ev (some p) (tOp (rI0 fun i j => .int (i + j)) (tC (.int bi)) (tCall (Con 2 A_take) [] E (tCons (tVar 1) (tCons te tNil)))) G (fun s => ∃ n : Nat, b ≤ n ∧ n < b + m ∧ s = .dat (nD n)) := fun h1 h2 e1 hm b e2 => by
    subst e1 e2
    refine ev_op (P1 := fun s => s = .dat (.int (b : Int))) (P2 := Dr _) ed_int (ev_take (ev_row h1) h2 hm) ?_
    rintro s t rfl ⟨k, hk, rfl⟩
    intro H x y hx hy rk Q q
    refine rd_int (f := fun i j => i + j) H x y hx hy rk Q fun v H2 u k2 sv pu => q v H2 u k2 sv ⟨b + k, by omega, by omega, ?_⟩
    rw [pu]
    unfold nD
    congr 2
  refine q_parP (PP := fun s1 s2 => ∃ n m : Nat, 1 ≤ n ∧ n ≤ 4 ∧ 1 ≤ m ∧ m ≤ 9 ∧ s1 = .dat (nD n) ∧ s2 = .dat (nD m)) en1 ((ea_cons (drw (m := 4) rfl ed_int (by rfl) (by decide) 1 (by rfl)) (ea_cons (drw (m := 9) rfl ed_int (by rfl) (by decide) 1 (by rfl)) ea_nil)).imp ?_) fun s1 s2 σ2 H2 p2 en2 _ => ?_
  · rintro ss ⟨s1, s2, rfl, ⟨n, h1, h2, rfl⟩, s3, s4, rfl, ⟨m, h3, h4, rfl⟩, rfl⟩
    exact ⟨_, _, rfl, n, m, h1, by omega, h3, by omega, rfl, rfl⟩
  obtain ⟨n0, m0, hn1, hn4, hm1, hm9, rfl, rfl⟩ := p2
  refine q_ifJ3 (P := fun _ => True) (fun σ' H' => ∃ n ls p1 p2 p3, PrOk n ls ∧ En (some p) H' σ' [.adr a, .row p, .dat (nD n), .any, .dat (lsD ls), .lst p1 ((call n ls).1.map loD), .lst p2 ((call n ls).2.map oD), .lst p3 (blD (n + ls.length) (nzf n ls)), .any, .any, .any, .any]) en2 (et_test (ev_op (P1 := Dr 6) (P2 := fun s => s = .dat (.int 5)) (ev_take (n := 6) (ev_row rfl) ed_int (by decide)) ed_int ?_)) (fun nx hnx H3 en3 _ => ?_) (fun nx hnx H3 en3 _ => ?_) fun σ4 H4 h4 => ?_
  · rintro s t ⟨k, hk, rfl⟩ rfl
    intro H x y hx hy rk Q q
    cases hx.d
    cases hy.d
    exact ⟨rfl, q _ H _ (Kp.refl _ H) (.dat (.bl _)) ⟨_, rfl, trivial⟩⟩
  · refine q_parP (PP := fun s1 s2 => ∃ n m : Nat, 1 ≤ n ∧ n ≤ 8 ∧ 1 ≤ m ∧ m ≤ 40 ∧ s1 = .dat (nD n) ∧ s2 = .dat (nD m)) en3 ((ea_cons (drw (m := 8) rfl ed_int (by rfl) (by decide) 1 (by rfl)) (ea_cons (drw (m := 10) rfl ed_int (by rfl) (by decide) 29 (by rfl)) ea_nil)).imp ?_) fun s1 s2 σ4 H4 p4 en4 _ => ?_
    · rintro ss ⟨s1, s2, rfl, ⟨n, h1, h2, rfl⟩, s3, s4, rfl, ⟨m, h3, h4, rfl⟩, rfl⟩
      exact ⟨_, _, rfl, n, m, h1, by omega, by omega, by omega, rfl, rfl⟩
    obtain ⟨n, m, h1, h2, h3, h4, rfl, rfl⟩ := p4
    refine s_fourS (P4 := fun s1 s2 s3 s4 => ∃ ls, PrOk n ls ∧ s1 = .dat (lsD ls) ∧ ∃ p q u, s2 = .lst p ((call n ls).1.map loD) ∧ s3 = .lst q ((call n ls).2.map oD) ∧ s4 = .lst u (blD (n + ls.length) (nzf n ls))) en4 ((ev_call' (ss := [.row p, .dat (nD n), .dat (nD m)]) (ea_c (ev_row rfl) (ea_c (ed_var rfl) (ea_c (ed_var rfl) ea_nil))) ⟨p, n, m, rfl, rfl, h1, h2, h3, h4, rfl⟩).imp ?_) fun s1 s2 s3 s4 σ5 H5 p5 en5 _ => ?_
    · rintro s ⟨ls, s1, s2, s3, hp, rfl, p', q', u', rfl, rfl, rfl⟩
      exact ⟨_, _, _, _, rfl, ls, hp, rfl, p', q', u', rfl, rfl, rfl⟩
    · obtain ⟨ls, hp, rfl, p', q', u', rfl, rfl, rfl⟩ := p5
      exact hnx _ _ ⟨n, ls, p', q', u', hp, En.drops [3] en5⟩
  · refine s_fourS (P4 := fun s1 s2 s3 s4 => ∃ ls, PrOk n0 ls ∧ s1 = .dat (lsD ls) ∧ ∃ p q u, s2 = .lst p ((call n0 ls).1.map loD) ∧ s3 = .lst q ((call n0 ls).2.map oD) ∧ s4 = .lst u (blD (n0 + ls.length) (nzf n0 ls))) en3 ((ev_call' (ss := [.row p, .dat (nD n0), .dat (nD m0)]) (ea_c (ev_row rfl) (ea_c (ed_var rfl) (ea_c (ed_var rfl) ea_nil))) ⟨p, n0, m0, rfl, rfl, hn1, by omega, hm1, hm9, rfl⟩).imp ?_) fun s1 s2 s3 s4 σ5 H5 p5 en5 _ => ?_
    · rintro s ⟨ls, s1, s2, s3, hp, rfl, p', q', u', rfl, rfl, rfl⟩
      exact ⟨_, _, _, _, rfl, ls, hp, rfl, p', q', u', rfl, rfl, rfl⟩
    · obtain ⟨ls, hp, rfl, p', q', u', rfl, rfl, rfl⟩ := p5
      exact hnx _ _ ⟨n0, ls, p', q', u', hp, En.drops [3] en5⟩
  obtain ⟨n, ls, p1, p2, p3, hp, en4⟩ := h4
  clear en1 en2 en
  refine q_par (s1 := .dat (prD n ls)) (s2 := .dat (.tup (((call n ls).1.drop n).map loD))) en4 (ea_c (ed_tup (ds := [nD n, lsD ls]) (ea_cd (ed_var rfl) (ea_cd (ed_var rfl) ea_n))) (ea_c (Ed.is (ed_tupOf (el_dropL (k := n) (ev_var rfl) (eo_some (ed_var rfl)))) (by rw [List.map_drop])) ea_nil)) fun σ5 H5 en5 _ => ?_
  refine q_par (s1 := .dat (.tup (((call n ls).2.drop n).map oD))) (s2 := .dat (cntD n ls)) en5 (ea_c (Ed.is (ed_tupOf (el_dropL (k := n) (ev_var rfl) (eo_some (ed_var rfl)))) (by rw [List.map_drop])) (ea_c (ev_call' (ss := [.dat (nD n), .dat (lsD ls), .lst p3 (blD (n + ls.length) (nzf n ls))]) (ea_c (ed_var rfl) (ea_c (ed_var rfl) (ea_c (ev_var rfl) ea_nil))) ⟨n, ls, p3, rfl, hp, rfl⟩) ea_nil)) fun σ6 H6 en6 _ => ?_
  have f1 := fine_map (fun l => ⟨(fine_lo l).1, Nat.le_of_eq (fine_lo l).2⟩) ((call n ls).1.drop n)
  have f2 := fine_map fine_o ((call n ls).2.drop n)
  have f3 : dFine (cntD n ls) = true ∧ dDep (cntD n ls) ≤ 2 := ⟨(fine_lo _).1, Nat.le_trans (Nat.le_of_eq (fine_lo (cnt n (nzf n ls) ls (ls.length - 1))).2) (by decide)⟩
  have a1 : askD "carried" n ls = .tup (((call n ls).1.drop n).map loD) := if_pos rfl
  have a2 : askD "numbers" n ls = .tup (((call n ls).2.drop n).map oD) := by
    unfold askD
    rw [if_neg (by decide +kernel), if_pos rfl]
  have a3 : askD "counting" n ls = cntD n ls := by
    unfold askD
    rw [if_neg (by decide +kernel), if_neg (by decide +kernel)]
  have same : ∀ {G : List Sl} {E : XK} {t1 t2 : TE} {d : D}, Ed (some p) t1 G d → Ed (some p) t2 G d → dFine d = true ∧ dDep d ≤ 2 → Ed (some p) (tCall (Con 2 (A_same 2)) [] E (tCons t1 (tCons t2 tNil))) G (.bl true) := fun h1 h2 hf => ev_call' (ea_c h1 (ea_c h2 ea_nil)) ⟨_, hf.1, hf.2, rfl, rfl⟩
  have ask : ∀ {G : List Sl} {E : XK} {x : Str} {d : D}, (x = "carried" ∨ x = "numbers" ∨ x = "counting") → askD x n ls = d → G[8]? = some (.dat (prD n ls)) → Ed (some p) (tCall (Con 2 A_ask) [] E (tCons (tC (.str x)) (tCons (tVar 8) tNil))) G d := fun hx e h => ev_call' (ea_c ed_str (ea_c (ed_var h) ea_nil)) ⟨_, hx, .inl ⟨n, ls, rfl, hp, by rw [e]⟩⟩
  refine q_seq (l_rng1 (n := 2) en6 (ea_c ed_int ea_nil) (by decide) (fun t σ' H' => En (some p) H' σ' [.adr a, .row p, .dat (nD n), .any, .dat (lsD ls), .lst p1 ((call n ls).1.map loD), .dat (.tup (((call n ls).2.drop n).map oD)), .lst p3 (blD (n + ls.length) (nzf n ls)), .dat (prD n ls), .dat (.tup (((call n ls).1.drop n).map loD)), .dat (cntD n ls), .any]) (fun H' en _ => en) (fun t σ' H' ht en => ?_) fun σ' H' en => ?_)
  · have en := en.set 11 (v := .int (t : Nat)) (s := .dat (nD t)) (.dat (.int _))
    refine q_pass en ((eb_not (eb_B (same (ask (.inr (.inr rfl)) a3 rfl) (ed_var rfl) f3))).is rfl) fun H7 en _ => ?_
    refine s_ifF en ((eb_or (eb_not (eb_B (same (ask (.inl rfl) a1 rfl) (ed_var rfl) f1))) fun _ => eb_not (eb_B (same (ask (.inr (.inl rfl)) a2 rfl) (ed_var rfl) f2))).is rfl) fun H8 en _ => ?_
    exact En.drops [11] en
  · refine q_pass en ((eb_or (eb_not (eb_B (same (ev_kw (ed_var rfl) ⟨n, ls, rfl, hp, rfl⟩) (ed_var rfl) f1))) fun _ => eb_not (eb_B (same (ev_kw (ed_var rfl) ⟨n, ls, rfl, hp, rfl⟩) (ed_var rfl) f2))).is rfl) fun H7 en _ => ?_
    refine q_pass en ((eb_or (eb_not (eb_B (same (ev_kw (ed_var rfl) ⟨n, ls, rfl, hp, rfl⟩) (ed_var rfl) f3))) fun _ => eb_not (eb_B (ev_call' (ss := [.row p, .dat (prD n ls)]) (ea_c (ev_row rfl) (ea_c (ed_var rfl) ea_nil)) ⟨p, n, ls, rfl, rfl, hp, rfl⟩))).is rfl) fun H8 en _ => ?_
    refine s_ret (D' := { nx := fun x H' => Q V.non H', rt := Q }) en (ev_call' (ss := [.row p, .dat (prD n ls), .dat (.tup (((call n ls).1.drop n).map loD)), .dat (.tup (((call n ls).2.drop n).map oD))]) (ea_c (ev_row rfl) (ea_c (ed_var rfl) (ea_c (ed_var rfl) (ea_c (ed_var rfl) ea_nil)))) ⟨p, n, ls, rfl, rfl, hp, rfl⟩) fun v H' s k' sv e => ?_
    subst e
    cases sv.d
    exact hq H'
end
end Zk

-- part ZHead

namespace Zh
open PySem PySem.Spec PyProof.Rows L2
open Zk
def d_is_integer : He.DefD := ⟨("is_integer", none), "is_integer", "is_integer", defArgs s_is_integer, defBody s_is_integer, defScope s_is_integer, [], []⟩
def d_common_divisor : He.DefD := ⟨("_common_divisor", none), "_common_divisor", "_common_divisor", defArgs s_common_divisor, defBody s_common_divisor, defScope s_common_divisor, [], []⟩
def d_is_quotient : He.DefD := ⟨("is_quotient", none), "is_quotient", "is_quotient", defArgs s_is_quotient, defBody s_is_quotient, defScope s_is_quotient, [], []⟩
def d_is_point : He.DefD := ⟨("is_point", none), "is_point", "is_point", defArgs s_is_point, defBody s_is_point, defScope s_is_point, [], []⟩
def d_is_plain : He.DefD := ⟨("is_plain", none), "is_plain", "is_plain", defArgs s_is_plain, defBody s_is_plain, defScope s_is_plain, [], []⟩
def d_lowest_terms : He.DefD := ⟨("_lowest_terms", none), "_lowest_terms", "_lowest_terms", defArgs s_lowest_terms, defBody s_lowest_terms, defScope s_lowest_terms, [], []⟩
def d_plus : He.DefD := ⟨("plus", none), "plus", "plus", defArgs s_plus, defBody s_plus, defScope s_plus, [], []⟩
def d_minus : He.DefD := ⟨("minus", none), "minus", "minus", defArgs s_minus, defBody s_minus, defScope s_minus, [], []⟩
def d_times : He.DefD := ⟨("times", none), "times", "times", defArgs s_times, defBody s_times, defScope s_times, [], []⟩
def d_number_by : He.DefD := ⟨("_number_by", none), "_number_by", "_number_by", defArgs s_number_by, defBody s_number_by, defScope s_number_by, [], []⟩
def d_carried_all : He.DefD := ⟨("_carried_all", none), "_carried_all", "_carried_all", defArgs s_carried_all, defBody s_carried_all, defScope s_carried_all, [], []⟩
def d_carried_of : He.DefD := ⟨("carried_of", none), "carried_of", "carried_of", defArgs s_carried_of, defBody s_carried_of, defScope s_carried_of, [], []⟩
def d_numbers_of : He.DefD := ⟨("numbers_of", none), "numbers_of", "numbers_of", defArgs s_numbers_of, defBody s_numbers_of, defScope s_numbers_of, [], []⟩
def d_counting_of : He.DefD := ⟨("counting_of", none), "counting_of", "counting_of", defArgs s_counting_of, defBody s_counting_of, defScope s_counting_of, [], []⟩
def d_mix_value : He.DefD := ⟨("_mix_value", none), "_mix_value", "_mix_value", defArgs s_mix_value, defBody s_mix_value, defScope s_mix_value, [], []⟩
def d_line_value : He.DefD := ⟨("_line_value", none), "_line_value", "_line_value", defArgs s_line_value, defBody s_line_value, defScope s_line_value, [], []⟩
def d_run_lines : He.DefD := ⟨("run_lines", none), "run_lines", "run_lines", defArgs s_run_lines, defBody s_run_lines, defScope s_run_lines, [], []⟩
def d_law_row : He.DefD := ⟨("_law_row", none), "_law_row", "_law_row", defArgs s_law_row, defBody s_law_row, defScope s_law_row, [], []⟩
def d_law_take : He.DefD := ⟨("_law_take", none), "_law_take", "_law_take", defArgs s_law_take, defBody s_law_take, defScope s_law_take, [], []⟩
def d_law_lowest : He.DefD := ⟨("_law_lowest", none), "_law_lowest", "_law_lowest", defArgs s_law_lowest, defBody s_law_lowest, defScope s_law_lowest, [], []⟩
def d_law_added : He.DefD := ⟨("_law_added", none), "_law_added", "_law_added", defArgs s_law_added, defBody s_law_added, defScope s_law_added, [], []⟩
def d_law_product : He.DefD := ⟨("_law_product", none), "_law_product", "_law_product", defArgs s_law_product, defBody s_law_product, defScope s_law_product, [], []⟩
def d_law_quotient : He.DefD := ⟨("_law_quotient", none), "_law_quotient", "_law_quotient", defArgs s_law_quotient, defBody s_law_quotient, defScope s_law_quotient, [], []⟩
def d_law_place : He.DefD := ⟨("_law_place", none), "_law_place", "_law_place", defArgs s_law_place, defBody s_law_place, defScope s_law_place, [], []⟩
def d_law_line : He.DefD := ⟨("_law_line", none), "_law_line", "_law_line", defArgs s_law_line, defBody s_law_line, defScope s_law_line, [], []⟩
def d_law_plainer : He.DefD := ⟨("_law_plainer", none), "_law_plainer", "_law_plainer", defArgs s_law_plainer, defBody s_law_plainer, defScope s_law_plainer, [], []⟩
def d_law_joined : He.DefD := ⟨("_law_joined", none), "_law_joined", "_law_joined", defArgs s_law_joined, defBody s_law_joined, defScope s_law_joined, [], []⟩
def d_law_number : He.DefD := ⟨("_law_number", none), "_law_number", "_law_number", defArgs s_law_number, defBody s_law_number, defScope s_law_number, [], []⟩
def d_law_form : He.DefD := ⟨("_law_form", none), "_law_form", "_law_form", defArgs s_law_form, defBody s_law_form, defScope s_law_form, [], []⟩
def d_law_stand : He.DefD := ⟨("_law_stand", none), "_law_stand", "_law_stand", defArgs s_law_stand, defBody s_law_stand, defScope s_law_stand, [], []⟩
def d_law_short : He.DefD := ⟨("_law_short", none), "_law_short", "_law_short", defArgs s_law_short, defBody s_law_short, defScope s_law_short, [], []⟩
def d_law_step : He.DefD := ⟨("_law_step", none), "_law_step", "_law_step", defArgs s_law_step, defBody s_law_step, defScope s_law_step, [], []⟩
def d_law_long : He.DefD := ⟨("_law_long", none), "_law_long", "_law_long", defArgs s_law_long, defBody s_law_long, defScope s_law_long, [], []⟩
def d_law_counting : He.DefD := ⟨("_law_counting", none), "_law_counting", "_law_counting", defArgs s_law_counting, defBody s_law_counting, defScope s_law_counting, [], []⟩
def d_law_same : He.DefD := ⟨("_law_same", none), "_law_same", "_law_same", defArgs s_law_same, defBody s_law_same, defScope s_law_same, [], []⟩
def d_law_stays : He.DefD := ⟨("_law_stays", none), "_law_stays", "_law_stays", defArgs s_law_stays, defBody s_law_stays, defScope s_law_stays, [], []⟩
def d_law_ask : He.DefD := ⟨("_law_ask", none), "_law_ask", "_law_ask", defArgs s_law_ask, defBody s_law_ask, defScope s_law_ask, [], []⟩
def d_law_mixed : He.DefD := ⟨("_law_mixed", none), "_law_mixed", "_law_mixed", defArgs s_law_mixed, defBody s_law_mixed, defScope s_law_mixed, [], []⟩
def d_law : He.DefD := ⟨("law", none), "law", "law", defArgs s_law, defBody s_law, defScope s_law, [], []⟩
def d_init : He.DefD := ⟨("NotUsable", some "__init__"), "__init__", "NotUsable.__init__", defArgs s_init, defBody s_init, defScope s_init, [], []⟩
def fn : List He.DefD := [d_init, d_is_integer, d_common_divisor, d_is_quotient, d_is_point, d_is_plain, d_lowest_terms, d_plus, d_minus, d_times, d_number_by, d_carried_all, d_carried_of, d_numbers_of, d_counting_of, d_mix_value, d_line_value, d_run_lines, d_law_row, d_law_take, d_law_lowest, d_law_added, d_law_product, d_law_quotient, d_law_place, d_law_line, d_law_plainer, d_law_joined, d_law_number, d_law_form, d_law_stand, d_law_short, d_law_step, d_law_long, d_law_counting, d_law_same, d_law_stays, d_law_ask, d_law_mixed, d_law]
def fa : List He.Fa := [.glo "NotUsable", .keep "NotUsable", .noat "NotUsable" "word", .noat "NotUsable" "at", .meth "NotUsable" "__init__", .exm "NotUsable" "NotUsable" true, .glo "is_integer", .glo "_common_divisor", .glo "is_quotient", .glo "is_point", .glo "is_plain", .glo "_lowest_terms", .glo "plus", .glo "minus", .glo "times", .glo "_number_by", .glo "_carried_all", .glo "carried_of", .glo "numbers_of", .glo "counting_of", .glo "_mix_value", .glo "_line_value", .glo "run_lines", .glo "_law_row", .glo "_law_take", .glo "_law_lowest", .glo "_law_added", .glo "_law_product", .glo "_law_quotient", .glo "_law_place", .glo "_law_line", .glo "_law_plainer", .glo "_law_joined", .glo "_law_number", .glo "_law_form", .glo "_law_stand", .glo "_law_short", .glo "_law_step", .glo "_law_long", .glo "_law_counting", .glo "_law_same", .glo "_law_stays", .glo "_law_ask", .glo "_law_mixed", .glo "law", .free "len", .free "isinstance", .free "int", .free "bool", .free "tuple", .free "str", .free "abs", .free "all", .free "range", .free "sorted", .free "set", .free "list", .free "zip", .free "enumerate", .free "max", .free "min"]
/-- what is asked of the class NotUsable -/
def oexB (K : PySem.W.Frag) (C : Addr) : Bool := (match K.lookup C with
  | some ⟨.type "type", _, .cls cd, sl⟩ => (match cd.mro, sl.toList with
    | .ref C' :: bm, [_, _, _, _, some (.builtin n), _] => C' == C && n == "ValueError.__new__" && !cd.hasDel && cd.hasDict && PySem.HandSPX.refsVE bm
    | _, _ => false)
  | _ => false) && He.eqO (PySem.W.findIn K (.ref C) "__setattr__") (some (some (.builtin "object.__setattr__"))) && He.eqO (PySem.W.findIn K (.ref C) "__getattribute__") (some (some (.builtin "BaseException.__getattribute__"))) && He.eqO (PySem.W.findIn K (.ref C) "__getattr__") (some none)
    && decide (PySem.W.subIn K (.ref C) (.type "BaseException") = some true) && decide (PySem.W.typeIn K (.ref C) = some (.type "type")) && PySem.W.keepIn K (.ref C) && PySem.W.hasDictIn K C && decide (PySem.W.typeIn K (.ref (He.ma K C "__init__")) = some (.type "function"))
abbrev Al : Type := He.AlD × Bool
def obsZ (n : Nat) (g : Addr → Option Obj) : Al := (He.obsD fa fn (He.frG g (He.asD g n)), oexB (He.frG g (He.asD g n)) (He.ga (He.frG g (He.asD g n)) "NotUsable"))
def hk : PySem.W.Hook where
  α := Al
  obs := fun s => obsZ 4 s.heap.get?
  val := fun _ => (He.valD fn, true)
  says := fun _ h => ∃ K : PySem.W.Frag, K.In h ∧ He.SaysD fa fn K ∧ oexB K (He.ga K "NotUsable") = true
  of := fun _ _ e => ⟨_, He.frG_in, congrArg (fun z : Al => z.1) e, congrArg (fun z : Al => z.2) e⟩
  keeps := fun _ _ _ ⟨K, hK, c⟩ k => ⟨K, PySem.W.Frag.In.keeps hK k, c⟩
abbrev R : PySem.W.OpenRow := PySem.W.OpenLaw.row PySem.Challenge.rw_sevenruns_k03_whole_carrying
def ob (s : PySem.W.SharedT) : Al := obsZ 4 (HandSHeadRun.getT s)
theorem ob_eq (s : PySem.W.SharedT) : ob s = hk.obs s.abs := by
  have e : HandSHeadRun.getT s = s.abs.heap.get? := funext fun a => HandSHeadRun.getT_eq s a
  show obsZ 4 (HandSHeadRun.getT s) = obsZ 4 s.abs.heap.get?
  rw [e]
def names1 : List PySem.Str := ["LossError", "FormError", "NotUsable", "is_integer", "_common_divisor", "is_quotient", "is_point", "is_plain", "_lowest_terms", "plus", "minus", "times", "_number_by", "_carried_all", "carried_of", "numbers_of", "counting_of", "_mix_value", "_line_value", "run_lines", "_law_row", "_law_take", "_law_lowest", "_law_added", "_law_product"]
def names2 : List PySem.Str := ["_law_quotient", "_law_place", "_law_line", "_law_plainer", "_law_joined", "_law_number", "_law_form", "_law_stand", "_law_short", "_law_step", "_law_long", "_law_counting", "_law_same", "_law_stays", "_law_ask", "_law_mixed"]
def names : List PySem.Str := names1 ++ names2
theorem run (w : World) : HandSHeadRun.RunEq R (PySem.W.view R.prog [48]) hk ob 3000 names w := by
  intro os
  kernel_rfl
end Zh

-- part ZB2
namespace Zk
open PySem PySem.Spec PyProof.Rows L2 Zb Zr Zm RZ
theorem oexB_ok {K : PySem.W.Frag} {C : Addr} (h : Zh.oexB K C = true) : OexC K C ∧ XfC K C ∧ PySem.W.typeIn K (.ref (He.ma K C "__init__")) = some (.type "function") := by
  unfold Zh.oexB at h
  simp only [Bool.and_eq_true, decide_eq_true_eq] at h
  obtain ⟨⟨⟨⟨⟨⟨⟨⟨hm, sa⟩, ga⟩, gg⟩, sub⟩, ty⟩, kp⟩, hd⟩, ti⟩ := h
  have sa' := He.eqO_ok sa
  have ga' := He.eqO_ok ga
  have gg' := He.eqO_ok gg
  refine ⟨⟨?_, sa', sub, ty, kp⟩, ⟨ga', gg', sub, hd⟩, ti⟩
  split at hm
  · rename_i dd cd sl hl
    split at hm
    · rename_i C' bm k0 k1 k2 k3 n k5 hmro hsl
      simp only [Bool.and_eq_true, beq_iff_eq, Bool.not_eq_true'] at hm
      obtain ⟨⟨⟨⟨e1, e2⟩, e3⟩, e4⟩, e5⟩ := hm
      obtain ⟨l⟩ := sl
      obtain ⟨nm, bs, mro, N, q, hdct, sn, sb, ab, col, hdel⟩ := cd
      have hsl' : l = _ := hsl
      have hmro' : mro = _ := hmro
      have e3' : hdel = false := e3
      have e4' : hdct = true := e4
      subst hsl' hmro' e1 e2 e3' e4'
      exact ⟨nm, q, N, bs, bm, sn, sb, ab, col, dd, k0, k1, k2, k3, k5, hl, e5⟩
    · cases hm
  · cases hm
theorem txt_of {K : PySem.W.Frag} {h : Heap} {mg : Str → Option Value} (X : K.In h) (G : h.Ns mainGlobals mg) (c : He.SaysD Zh.fa Zh.fn K) : Txt K mg := by
  obtain ⟨f0, F0⟩ := c.def_ 1 (d := Zh.d_is_integer) rfl
  obtain ⟨f1, F1⟩ := c.def_ 2 (d := Zh.d_common_divisor) rfl
  obtain ⟨f2, F2⟩ := c.def_ 3 (d := Zh.d_is_quotient) rfl
  obtain ⟨f3, F3⟩ := c.def_ 4 (d := Zh.d_is_point) rfl
  obtain ⟨f4, F4⟩ := c.def_ 5 (d := Zh.d_is_plain) rfl
  obtain ⟨f5, F5⟩ := c.def_ 6 (d := Zh.d_lowest_terms) rfl
  obtain ⟨f6, F6⟩ := c.def_ 7 (d := Zh.d_plus) rfl
  obtain ⟨f7, F7⟩ := c.def_ 8 (d := Zh.d_minus) rfl
  obtain ⟨f8, F8⟩ := c.def_ 9 (d := Zh.d_times) rfl
  obtain ⟨f9, F9⟩ := c.def_ 10 (d := Zh.d_number_by) rfl
  obtain ⟨f10, F10⟩ := c.def_ 11 (d := Zh.d_carried_all) rfl
  obtain ⟨f11, F11⟩ := c.def_ 12 (d := Zh.d_carried_of) rfl
  obtain ⟨f12, F12⟩ := c.def_ 13 (d := Zh.d_numbers_of) rfl
  obtain ⟨f13, F13⟩ := c.def_ 14 (d := Zh.d_counting_of) rfl
  obtain ⟨f14, F14⟩ := c.def_ 15 (d := Zh.d_mix_value) rfl
  obtain ⟨f15, F15⟩ := c.def_ 16 (d := Zh.d_line_value) rfl
  obtain ⟨f16, F16⟩ := c.def_ 17 (d := Zh.d_run_lines) rfl
  obtain ⟨f17, F17⟩ := c.def_ 18 (d := Zh.d_law_row) rfl
  obtain ⟨f18, F18⟩ := c.def_ 19 (d := Zh.d_law_take) rfl
  obtain ⟨f19, F19⟩ := c.def_ 20 (d := Zh.d_law_lowest) rfl
  obtain ⟨f20, F20⟩ := c.def_ 21 (d := Zh.d_law_added) rfl
  obtain ⟨f21, F21⟩ := c.def_ 22 (d := Zh.d_law_product) rfl
  obtain ⟨f22, F22⟩ := c.def_ 23 (d := Zh.d_law_quotient) rfl
  obtain ⟨f23, F23⟩ := c.def_ 24 (d := Zh.d_law_place) rfl
  obtain ⟨f24, F24⟩ := c.def_ 25 (d := Zh.d_law_line) rfl
  obtain ⟨f25, F25⟩ := c.def_ 26 (d := Zh.d_law_plainer) rfl
  obtain ⟨f26, F26⟩ := c.def_ 27 (d := Zh.d_law_joined) rfl
  obtain ⟨f27, F27⟩ := c.def_ 28 (d := Zh.d_law_number) rfl
  obtain ⟨f28, F28⟩ := c.def_ 29 (d := Zh.d_law_form) rfl
  obtain ⟨f29, F29⟩ := c.def_ 30 (d := Zh.d_law_stand) rfl
  obtain ⟨f30, F30⟩ := c.def_ 31 (d := Zh.d_law_short) rfl
  obtain ⟨f31, F31⟩ := c.def_ 32 (d := Zh.d_law_step) rfl
  obtain ⟨f32, F32⟩ := c.def_ 33 (d := Zh.d_law_long) rfl
  obtain ⟨f33, F33⟩ := c.def_ 34 (d := Zh.d_law_counting) rfl
  obtain ⟨f34, F34⟩ := c.def_ 35 (d := Zh.d_law_same) rfl
  obtain ⟨f35, F35⟩ := c.def_ 36 (d := Zh.d_law_stays) rfl
  obtain ⟨f36, F36⟩ := c.def_ 37 (d := Zh.d_law_ask) rfl
  obtain ⟨f37, F37⟩ := c.def_ 38 (d := Zh.d_law_mixed) rfl
  obtain ⟨f38, F38⟩ := c.def_ 39 (d := Zh.d_law) rfl
  exact { b_len := He.free_ok X G (c.fact 45 (f := .free "len") rfl)
          b_isinstance := He.free_ok X G (c.fact 46 (f := .free "isinstance") rfl)
          b_int := He.free_ok X G (c.fact 47 (f := .free "int") rfl)
          b_bool := He.free_ok X G (c.fact 48 (f := .free "bool") rfl)
          b_tuple := He.free_ok X G (c.fact 49 (f := .free "tuple") rfl)
          b_str := He.free_ok X G (c.fact 50 (f := .free "str") rfl)
          b_abs := He.free_ok X G (c.fact 51 (f := .free "abs") rfl)
          b_all := He.free_ok X G (c.fact 52 (f := .free "all") rfl)
          b_range := He.free_ok X G (c.fact 53 (f := .free "range") rfl)
          b_sorted := He.free_ok X G (c.fact 54 (f := .free "sorted") rfl)
          b_set := He.free_ok X G (c.fact 55 (f := .free "set") rfl)
          b_list := He.free_ok X G (c.fact 56 (f := .free "list") rfl)
          b_zip := He.free_ok X G (c.fact 57 (f := .free "zip") rfl)
          b_enumerate := He.free_ok X G (c.fact 58 (f := .free "enumerate") rfl)
          b_max := He.free_ok X G (c.fact 59 (f := .free "max") rfl)
          b_min := He.free_ok X G (c.fact 60 (f := .free "min") rfl)
          d_is_integer := ⟨_, f0, F0, He.glo_ok X G (c.fact 6 (f := .glo "is_integer") rfl)⟩
          d_common_divisor := ⟨_, f1, F1, He.glo_ok X G (c.fact 7 (f := .glo "_common_divisor") rfl)⟩
          d_is_quotient := ⟨_, f2, F2, He.glo_ok X G (c.fact 8 (f := .glo "is_quotient") rfl)⟩
          d_is_point := ⟨_, f3, F3, He.glo_ok X G (c.fact 9 (f := .glo "is_point") rfl)⟩
          d_is_plain := ⟨_, f4, F4, He.glo_ok X G (c.fact 10 (f := .glo "is_plain") rfl)⟩
          d_lowest_terms := ⟨_, f5, F5, He.glo_ok X G (c.fact 11 (f := .glo "_lowest_terms") rfl)⟩
          d_plus := ⟨_, f6, F6, He.glo_ok X G (c.fact 12 (f := .glo "plus") rfl)⟩
          d_minus := ⟨_, f7, F7, He.glo_ok X G (c.fact 13 (f := .glo "minus") rfl)⟩
          d_times := ⟨_, f8, F8, He.glo_ok X G (c.fact 14 (f := .glo "times") rfl)⟩
          d_number_by := ⟨_, f9, F9, He.glo_ok X G (c.fact 15 (f := .glo "_number_by") rfl)⟩
          d_carried_all := ⟨_, f10, F10, He.glo_ok X G (c.fact 16 (f := .glo "_carried_all") rfl)⟩
          d_carried_of := ⟨_, f11, F11, He.glo_ok X G (c.fact 17 (f := .glo "carried_of") rfl)⟩
          d_numbers_of := ⟨_, f12, F12, He.glo_ok X G (c.fact 18 (f := .glo "numbers_of") rfl)⟩
          d_counting_of := ⟨_, f13, F13, He.glo_ok X G (c.fact 19 (f := .glo "counting_of") rfl)⟩
          d_mix_value := ⟨_, f14, F14, He.glo_ok X G (c.fact 20 (f := .glo "_mix_value") rfl)⟩
          d_line_value := ⟨_, f15, F15, He.glo_ok X G (c.fact 21 (f := .glo "_line_value") rfl)⟩
          d_run_lines := ⟨_, f16, F16, He.glo_ok X G (c.fact 22 (f := .glo "run_lines") rfl)⟩
          d_law_row := ⟨_, f17, F17, He.glo_ok X G (c.fact 23 (f := .glo "_law_row") rfl)⟩
          d_law_take := ⟨_, f18, F18, He.glo_ok X G (c.fact 24 (f := .glo "_law_take") rfl)⟩
          d_law_lowest := ⟨_, f19, F19, He.glo_ok X G (c.fact 25 (f := .glo "_law_lowest") rfl)⟩
          d_law_added := ⟨_, f20, F20, He.glo_ok X G (c.fact 26 (f := .glo "_law_added") rfl)⟩
          d_law_product := ⟨_, f21, F21, He.glo_ok X G (c.fact 27 (f := .glo "_law_product") rfl)⟩
          d_law_quotient := ⟨_, f22, F22, He.glo_ok X G (c.fact 28 (f := .glo "_law_quotient") rfl)⟩
          d_law_place := ⟨_, f23, F23, He.glo_ok X G (c.fact 29 (f := .glo "_law_place") rfl)⟩
          d_law_line := ⟨_, f24, F24, He.glo_ok X G (c.fact 30 (f := .glo "_law_line") rfl)⟩
          d_law_plainer := ⟨_, f25, F25, He.glo_ok X G (c.fact 31 (f := .glo "_law_plainer") rfl)⟩
          d_law_joined := ⟨_, f26, F26, He.glo_ok X G (c.fact 32 (f := .glo "_law_joined") rfl)⟩
          d_law_number := ⟨_, f27, F27, He.glo_ok X G (c.fact 33 (f := .glo "_law_number") rfl)⟩
          d_law_form := ⟨_, f28, F28, He.glo_ok X G (c.fact 34 (f := .glo "_law_form") rfl)⟩
          d_law_stand := ⟨_, f29, F29, He.glo_ok X G (c.fact 35 (f := .glo "_law_stand") rfl)⟩
          d_law_short := ⟨_, f30, F30, He.glo_ok X G (c.fact 36 (f := .glo "_law_short") rfl)⟩
          d_law_step := ⟨_, f31, F31, He.glo_ok X G (c.fact 37 (f := .glo "_law_step") rfl)⟩
          d_law_long := ⟨_, f32, F32, He.glo_ok X G (c.fact 38 (f := .glo "_law_long") rfl)⟩
          d_law_counting := ⟨_, f33, F33, He.glo_ok X G (c.fact 39 (f := .glo "_law_counting") rfl)⟩
          d_law_same := ⟨_, f34, F34, He.glo_ok X G (c.fact 40 (f := .glo "_law_same") rfl)⟩
          d_law_stays := ⟨_, f35, F35, He.glo_ok X G (c.fact 41 (f := .glo "_law_stays") rfl)⟩
          d_law_ask := ⟨_, f36, F36, He.glo_ok X G (c.fact 42 (f := .glo "_law_ask") rfl)⟩
          d_law_mixed := ⟨_, f37, F37, He.glo_ok X G (c.fact 43 (f := .glo "_law_mixed") rfl)⟩
          d_law := ⟨_, f38, F38, He.glo_ok X G (c.fact 44 (f := .glo "law") rfl)⟩ }
theorem txe_of {K : PySem.W.Frag} {h : Heap} {mg : Str → Option Value} (X : K.In h) (G : h.Ns mainGlobals mg) (c : He.SaysD Zh.fa Zh.fn K) (ob : Zh.oexB K (He.ga K "NotUsable") = true) : TxE K mg (He.ga K "NotUsable") := by
  obtain ⟨o1, o2, o3⟩ := oexB_ok ob
  obtain ⟨fd, F⟩ := c.def_ 0 (d := Zh.d_init) rfl
  have M := He.meth_ok (c.fact 4 (f := .meth "NotUsable" "__init__") rfl)
  exact { oex := o1, xf := o2, gC := He.glo_ok X G (c.fact 0 (f := .glo "NotUsable") rfl), xm := He.exm_ok (c.fact 5 (f := .exm "NotUsable" "NotUsable" true) rfl), nw := He.noat_ok (c.fact 2 (f := .noat "NotUsable" "word") rfl), na := He.noat_ok (c.fact 3 (f := .noat "NotUsable" "at") rfl), init := ⟨_, fd, F, M.at_, o3⟩ }
theorem law_of {P : Program} {w : World} {K : PySem.W.Frag} {mg : Str → Option Value} {base : Heap} {C : Addr} (T : Txt K mg) (TX : TxE K mg C) {fL : Addr} {fdL : FuncData} (FL : FunD K "law" "law" (defArgs s_law) (defBody s_law) (defScope s_law) [] [] fL fdL) : FnOk P w K mg base CX0 9 fL fdL ["_law_script"] (sp_law K) :=
  have c_is_integer := ok_is_integer (P := P) (w := w) (base := base) T
  have c_common_divisor := ok_common_divisor (P := P) (w := w) (base := base) T
  have c_is_quotient := ok_is_quotient T c_is_integer c_common_divisor
  have c_is_point := ok_is_point T c_is_quotient
  have c_is_plain := ok_is_plain (P := P) (w := w) (base := base) T
  have c_lowest_terms := ok_lowest_terms T c_common_divisor
  have c_plus := ok_plus T c_is_quotient c_lowest_terms
  have c_minus := ok_minus T c_is_quotient c_lowest_terms
  have c_times := ok_times T c_is_quotient c_lowest_terms
  have c_number_by := ok_number_by T c_plus c_minus c_times
  have c_carried_all := ok_carried_all T c_number_by
  have c_carried_of := ok_carried_of T TX c_is_plain c_carried_all
  have c_numbers_of := ok_numbers_of T TX c_is_plain c_carried_all
  have c_counting_of := ok_counting_of T TX c_is_plain c_carried_all
  have c_line_value := ok_line_value T c_plus c_minus c_times
  have c_run_lines := ok_run_lines T c_is_point c_line_value
  have c_law_row := ok_law_row (P := P) (w := w) (base := base) T
  have c_law_take := ok_law_take (P := P) (w := w) (base := base) T
  have c_law_lowest := ok_law_lowest (P := P) (w := w) (base := base) T
  have c_law_added := ok_law_added T c_law_lowest
  have c_law_product := ok_law_product T c_law_lowest
  have c_law_quotient := ok_law_quotient T c_law_take c_law_lowest
  have c_law_place := ok_law_place T c_law_take
  have c_law_line := ok_law_line T c_law_take c_law_quotient c_law_place
  have c_law_plainer := ok_law_plainer T c_law_take
  have c_law_joined := ok_law_joined T c_law_added c_law_product
  have c_law_number := ok_law_number (P := P) (w := w) (base := base) T
  have c_law_form := ok_law_form T c_law_number c_law_joined
  have c_law_stand := ok_law_stand (P := P) (w := w) (base := base) T
  have c_law_short := ok_law_short T c_law_line c_law_plainer c_law_form c_law_stand
  have c_law_step := ok_law_step T c_law_added c_law_product
  have c_law_long := ok_law_long T c_law_line c_law_plainer c_law_step
  have c_law_counting := ok_law_counting (P := P) (w := w) (base := base) T
  have c_law_same := ok_law_same (P := P) (w := w) (base := base) T 2
  have c_law_ask := ok_law_ask T TX c_carried_of c_numbers_of c_counting_of
  have c_law_mixed := ok_law_mixed T c_law_take c_law_same c_law_ask
  have c_law_stays := ok_law_stays T c_law_take c_law_same c_run_lines
  ok_law T FL c_law_row c_law_take c_law_long c_law_short c_law_counting c_law_same c_law_ask c_law_mixed c_law_stays c_carried_of c_numbers_of c_counting_of
end Zk

-- part ZFin
open PySem PySem.W PySem.Calls PyProof.Rows
theorem PySem.Challenge.cw_sevenruns_k03_whole_carrying_holds : PySem.Challenge.rw_sevenruns_k03_whole_carrying.Holds := by
  w_on; o_law
  refine HandSHeadRun.head_any (r := Zh.R) (q := view Zh.R.prog [48]) (H := Zh.hk) (ob := Zh.ob) (M := 3000) (loose := Zh.names) (d := HandSHeadRun.topDef Zh.R.prog 48) (kwd := []) Zh.ob_eq
    (by kernel_rfl) (fun s => by kernel_rfl) Zh.run (by kernel_rfl) (by kernel_rfl) (by kernel_rfl) (by rfl) (by first | assumption | decide +kernel) (by decide +kernel) ⟨rfl, rfl, rfl, rfl, rfl, by decide +kernel⟩ ?hw ?hc
  case hw => w_witness2
  case hc =>
    refine L2.walk_ofE (l := PySem.Challenge.rw_sevenruns_k03_whole_carrying) (n := 63) (k := 9) (x := "_law_script") (CX := L2.CX0) rfl (by decide) (by kernel_rfl) ⟨rfl, by decide, by decide⟩ ?F (fun _ _ _ _ z => z)
    intro w mg fa h Y G hmg0
    obtain ⟨K, KX, c, ob⟩ := Y
    have hmg : mg ("law" : PySem.Str) = some (.ref fa) := by
      have e : (HandSHeadRun.topDef Zh.R.prog 48).name = ("law" : PySem.Str) := by kernel_rfl
      rw [← e]
      exact hmg0
    have T := Zk.txt_of KX G c
    have TX := Zk.txe_of KX G c ob
    obtain ⟨fL, fdL, FL, mL⟩ := T.d_law
    have e := hmg.symm.trans mL
    cases e
    have b := L2.FunD.bindsA (ps := ["_law_script"]) FL fun _ _ _ _ _ _ us hl => match us, hl with | [_], _ => rfl
    exact ⟨K, fdL, Zk.sp_law K, KX, fun s v => b s [v] rfl, fun H a ns hl _ hS => ⟨a, ns, rfl, hl, hS, fun _ => rfl⟩, fun base _ _ => Zk.law_of T TX FL⟩
