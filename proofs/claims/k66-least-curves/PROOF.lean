import PyProof.Rows.All
import Wide.All
import OpenK.AllK
import Wide.FinOn
import HandS.ForMost
import HandS.Wide
import HandS.Deep
import HandS.Zip
import HandS.Style
import HandS.Star
import HandS.NoneIn
import HandS.IsInst
import HandS.TupAny
import HandS.Evl
import HandS.SlotsOwn
import PySem.Challenge.RW_allincomes_k66_whole_least_curves
import KE.GoesEnum
set_option autoImplicit false
/-! KNum: rational numbers as lowest-terms pairs; their heights. Core only. -/
namespace K66
/-- what is divided by, in lowest terms -/
def dv (t b : Int) : Int := if 0 < b then (Int.gcd t b : Int) else -(Int.gcd t b : Int)
theorem dv_ne {t b : Int} (hb : b ≠ 0) : dv t b ≠ 0 := by
  unfold dv
  have h : 0 < Int.gcd t b := Int.gcd_pos_of_ne_zero_right t hb
  split <;> omega
theorem dv_le {t b : Int} (hb : b ≠ 0) : (dv t b).natAbs ≤ b.natAbs := by
  unfold dv
  have h : Int.gcd t b ≤ b.natAbs := Int.gcd_le_natAbs_right t hb
  split <;> omega
theorem fdiv_gcd {t g : Int} (hg : g ≠ 0) (h : g ∣ t) : t.fdiv g = t / g := by
  obtain ⟨c, rfl⟩ := h
  rw [Int.mul_fdiv_cancel_left c hg, Int.mul_ediv_cancel_left c hg]
theorem dv_num {t b : Int} (hb : b ≠ 0) : t.fdiv (dv t b) = (Rat.divInt t b).num := by
  have hg : 0 < Int.gcd t b := Int.gcd_pos_of_ne_zero_right t hb
  have hd : ((Int.gcd t b : Int)) ∣ t := Int.gcd_dvd_left t b
  have hd0 : dv t b ∣ t := by
    unfold dv
    split
    · exact hd
    · exact (Int.neg_dvd).mpr hd
  rw [fdiv_gcd (dv_ne hb) hd0, Rat.num_divInt, Int.gcd_comm b t]
  unfold dv
  by_cases h : 0 < b
  · rw [if_pos h, Int.sign_eq_one_of_pos h, Int.one_mul]
  · rw [if_neg h, Int.sign_eq_neg_one_of_neg (by omega), Int.ediv_neg, Int.neg_mul, Int.one_mul, Int.neg_ediv_of_dvd hd]
theorem dv_den {t b : Int} (hb : b ≠ 0) : b.fdiv (dv t b) = ((Rat.divInt t b).den : Int) := by
  have hg : 0 < Int.gcd t b := Int.gcd_pos_of_ne_zero_right t hb
  have hd : ((Int.gcd t b : Int)) ∣ b := Int.gcd_dvd_right t b
  have hd0 : dv t b ∣ b := by
    unfold dv
    split
    · exact hd
    · exact (Int.neg_dvd).mpr hd
  rw [fdiv_gcd (dv_ne hb) hd0, Rat.den_divInt, if_neg hb, Int.gcd_comm b t]
  unfold dv
  by_cases h : 0 < b
  · rw [if_pos h, Int.natCast_ediv]
    congr 1
    omega
  · rw [if_neg h, Int.ediv_neg, Int.natCast_ediv, ← Int.neg_ediv_of_dvd hd]
    congr 1
    omega
theorem add_divInt (p q : Rat) : Rat.divInt (p.num * q.den + q.num * p.den) (p.den * q.den) = p + q := by
  rw [Rat.add_def', ← Rat.divInt_ofNat]
  simp
theorem mul_divInt (p q : Rat) : Rat.divInt (p.num * q.num) (p.den * q.den) = p * q := by
  rw [Rat.mul_def', ← Rat.divInt_ofNat]
  simp
theorem div_divInt (p q : Rat) : Rat.divInt (p.num * q.den) (p.den * q.num) = p / q := by
  rw [Rat.div_def, Rat.inv_def]
  have h := Rat.divInt_mul_divInt p.num q.den (d₁ := p.den) (d₂ := q.num)
  rw [Rat.num_divInt_den] at h
  exact h.symm
theorem lt_num (p q : Rat) : decide (p.num * q.den < q.num * p.den) = decide (p < q) := by
  have h := Rat.lt_iff p q
  by_cases hh : p < q
  · rw [decide_eq_true hh, decide_eq_true (h.mp hh)]
  · rw [decide_eq_false hh, decide_eq_false fun z => hh (h.mpr z)]
theorem den_ne (q : Rat) : (q.den : Int) ≠ 0 := by have := q.den_pos; omega
theorem num_ne {q : Rat} (h : q ≠ 0) : q.num ≠ 0 := fun z => h (Rat.num_eq_zero.mp z)

/-! ### heights -/
structure Ht (n : Nat) (q : Rat) : Prop where
  num : q.num.natAbs < 2 ^ n
  den : q.den < 2 ^ n
theorem Ht.mono {n m : Nat} {q : Rat} (h : Ht n q) (hm : n ≤ m) : Ht m q :=
  ⟨Nat.lt_of_lt_of_le h.num (Nat.pow_le_pow_right (by decide) hm), Nat.lt_of_lt_of_le h.den (Nat.pow_le_pow_right (by decide) hm)⟩
theorem lt_mul_pow {x y a b : Nat} (h : x < 2 ^ a) (g : y < 2 ^ b) : x * y < 2 ^ (a + b) := by
  rw [Nat.pow_add]
  exact Nat.mul_lt_mul'' h g
theorem divInt_ht {t b : Int} {n : Nat} (hb : b ≠ 0) (h1 : t.natAbs < 2 ^ n) (h2 : b.natAbs < 2 ^ n) : Ht n (Rat.divInt t b) := by
  constructor
  · have h := dv_num (t := t) hb
    rw [← h, fdiv_gcd (dv_ne hb)]
    · refine Nat.lt_of_le_of_lt ?_ h1
      exact Int.natAbs_ediv_le_natAbs t (dv t b)
    · unfold dv
      split
      · exact Int.gcd_dvd_left t b
      · exact (Int.neg_dvd).mpr (Int.gcd_dvd_left t b)
  · rw [Rat.den_divInt, if_neg hb]
    exact Nat.lt_of_le_of_lt (Nat.div_le_self _ _) h2
theorem Ht.add {n m : Nat} {p q : Rat} (h : Ht n p) (g : Ht m q) : Ht (n + m + 1) (p + q) := by
  rw [← add_divInt]
  refine divInt_ht (Int.mul_ne_zero (den_ne p) (den_ne q)) ?_ ?_
  · have a : p.num.natAbs * q.den < 2 ^ (n + m) := lt_mul_pow h.num g.den
    have b : q.num.natAbs * p.den < 2 ^ (m + n) := lt_mul_pow g.num h.den
    rw [Nat.add_comm m n] at b
    have e : (p.num * (q.den : Int) + q.num * (p.den : Int)).natAbs ≤ p.num.natAbs * q.den + q.num.natAbs * p.den := by
      refine Nat.le_trans (Int.natAbs_add_le _ _) ?_
      rw [Int.natAbs_mul, Int.natAbs_mul]
      exact Nat.le_refl _
    rw [Nat.pow_succ]
    omega
  · have a : p.den * q.den < 2 ^ (n + m) := lt_mul_pow h.den g.den
    have e : ((p.den : Int) * (q.den : Int)).natAbs = p.den * q.den := by
      rw [Int.natAbs_mul]
      rfl
    rw [e, Nat.pow_succ]
    omega
theorem Ht.mul {n m : Nat} {p q : Rat} (h : Ht n p) (g : Ht m q) : Ht (n + m) (p * q) := by
  rw [← mul_divInt]
  refine divInt_ht (Int.mul_ne_zero (den_ne p) (den_ne q)) ?_ ?_
  · rw [Int.natAbs_mul]
    exact lt_mul_pow h.num g.num
  · rw [Int.natAbs_mul]
    exact lt_mul_pow h.den g.den
theorem Ht.neg {n : Nat} {p : Rat} (h : Ht n p) : Ht n (-p) := ⟨by rw [Rat.neg_num, Int.natAbs_neg]; exact h.num, by rw [Rat.neg_den]; exact h.den⟩
theorem Ht.sub {n m : Nat} {p q : Rat} (h : Ht n p) (g : Ht m q) : Ht (n + m + 1) (p - q) := by
  rw [Rat.sub_eq_add_neg]
  exact h.add g.neg
theorem Ht.div {n m : Nat} {p q : Rat} (h : Ht n p) (g : Ht m q) (hq : q ≠ 0) : Ht (n + m) (p / q) := by
  rw [← div_divInt]
  refine divInt_ht (Int.mul_ne_zero (den_ne p) (num_ne hq)) ?_ ?_
  · rw [Int.natAbs_mul]
    exact lt_mul_pow h.num g.den
  · rw [Int.natAbs_mul]
    exact lt_mul_pow h.den g.num
theorem Ht.ite {n : Nat} {p q : Rat} {c : Prop} [Decidable c] (h : Ht n p) (g : Ht n q) : Ht n (if c then p else q) := by split <;> assumption
theorem Ht.max {n : Nat} {p q : Rat} (h : Ht n p) (g : Ht n q) : Ht n (max p q) := by
  rw [Rat.max_def]
  exact g.ite h
theorem ht_zero : Ht 1 0 := ⟨by decide, by decide⟩
/-- the greater one, as the program tells it -/
def lar (p q : Rat) : Rat := if p < q then q else p
theorem lar_max (p q : Rat) : lar p q = max p q := by
  unfold lar
  rw [Rat.max_def]
  grind
theorem Ht.lar {n : Nat} {p q : Rat} (h : Ht n p) (g : Ht n q) : Ht n (lar p q) := g.ite h
end K66
set_option autoImplicit false
/-! KNd: the plain words that both the walk and the mathematics speak: nodes, and what each def of the program computes. Core only. -/
namespace K66
/-- a node of a curve: income, value, start, slope -/
structure Nd where
  x : Rat
  v : Rat
  s : Rat
  k : Rat
deriving DecidableEq
/-- the value that the piece behind a node has at an income -/
def lineAt (n : Nd) (y : Rat) : Rat := n.s + n.k * (y - n.x)
def n0 : Nd := ⟨0, 0, 0, 0⟩
/-- the last node that does not lie above an income -/
def near (ns : List Nd) (y : Rat) : Nd := ((ns.filter fun n => !decide (y < n.x)).getLast?).getD n0
def vl (ns : List Nd) (y : Rat) : Rat := if (near ns y).x = y then (near ns y).v else lineAt (near ns y) y
def st (ns : List Nd) (y : Rat) : Rat := lineAt (near ns y) y
def sl (ns : List Nd) (y : Rat) : Rat := (near ns y).k
/-- a node is needless behind another one -/
def idle (n m : Nd) : Bool := decide (m.v = lineAt n m.x) && (decide (m.s = lineAt n m.x) && decide (m.k = n.k))
/-- the nodes behind one, without the needless -/
def thin : Nd → List Nd → List Nd
  | _, [] => []
  | n, m :: t => if idle n m then thin n t else m :: thin m t
def mkC : List Nd → List Nd
  | [] => []
  | n :: t => n :: thin n t
/-- a list of nodes that makes a curve -/
def Srt : List Nd → Prop
  | [] => False
  | n :: t => n.x = 0 ∧ (n :: t).Pairwise (fun a b => a.x < b.x)
/-- incomes, ascending, each once -/
def insA (found : List Rat) (q : Rat) : List Rat :=
  if q ∈ found then found else found.take (found.filter fun o => decide (o < q)).length ++ [q] ++ found.drop (found.filter fun o => decide (o < q)).length
def asc (qs : List Rat) : List Rat := qs.foldl insA []
def incs (f g : List Nd) : List Rat := asc ((f ++ g).map (·.x))
def sumNd (f g : List Nd) (y : Rat) : Nd := ⟨y, vl f y + vl g y, st f y + st g y, sl f y + sl g y⟩
def sumC (f g : List Nd) : List Nd := mkC ((incs f g).map (sumNd f g))
def scaNd (q : Rat) (n : Nd) : Nd := ⟨n.x, n.v * q, n.s * q, n.k * q⟩
def scaC (f : List Nd) (q : Rat) : List Nd := mkC (f.map (scaNd q))
def subC (f g : List Nd) : List Nd := sumC f (scaC g (-1))
def lineC (k : Rat) : List Nd := [⟨0, 0, 0, k⟩]
/-- the later income at which two pieces (start, slope) meet -/
def cross (y a1 a2 b1 b2 : Rat) : Option Rat :=
  if a1 - b1 = 0 ∨ b2 - a2 = 0 then none else if 0 < (a1 - b1) / (b2 - a2) then some (y + (a1 - b1) / (b2 - a2)) else none
def larP (a1 a2 b1 b2 : Rat) : Rat × Rat := if a1 = b1 then (a1, lar a2 b2) else if a1 < b1 then (b1, b2) else (a1, a2)
def larNd (f g : List Nd) (y : Rat) : Nd := ⟨y, lar (vl f y) (vl g y), (larP (st f y) (sl f y) (st g y) (sl g y)).1, (larP (st f y) (sl f y) (st g y) (sl g y)).2⟩
/-- the node where the two pieces meet ahead of the next income, if they do -/
def larX (f g : List Nd) (y : Rat) (next : Option Rat) : List Nd :=
  match cross y (st f y) (sl f y) (st g y) (sl g y) with
  | none => []
  | some z => if (match next with | none => true | some u => decide (z < u)) = true then
      [⟨z, lineAt ⟨y, vl f y, st f y, sl f y⟩ z, lineAt ⟨y, vl f y, st f y, sl f y⟩ z, if sl f y < sl g y then sl g y else sl f y⟩] else []
def larN (f g : List Nd) : List Rat → List Nd
  | [] => []
  | y :: r => larNd f g y :: (larX f g y r.head? ++ larN f g r)
def larC (f g : List Nd) : List Nd := mkC (larN f g (incs f g))
/-! the highest so far: h the highest ahead of the node; next the income of the next node -/
def hsStart (h : Rat) (n : Nd) : Rat := lar (lar h n.v) n.s
def hsFollows (h : Rat) (n : Nd) : Bool := decide (0 < n.k) && decide (hsStart h n = n.s)
def hsNd (h : Rat) (n : Nd) : Nd := ⟨n.x, lar h n.v, hsStart h n, if hsFollows h n then n.k else 0⟩
def hsZ (h : Rat) (n : Nd) : Rat := n.x + (hsStart h n - n.s) / n.k
def hsX (h : Rat) (n : Nd) (next : Option Rat) : List Nd :=
  if decide (0 < n.k) && !hsFollows h n then
    (if (match next with | none => true | some u => decide (hsZ h n < u)) = true then [⟨hsZ h n, hsStart h n, hsStart h n, n.k⟩] else [])
  else []
def hsH (h : Rat) (n : Nd) (next : Option Rat) : Rat :=
  if decide (0 < n.k) then (match next with | none => hsStart h n | some u => lar (hsStart h n) (lineAt n u)) else hsStart h n
def hsN : Rat → List Nd → List Nd
  | _, [] => []
  | h, n :: t => hsNd h n :: (hsX h n (t.head?.map (·.x)) ++ hsN (hsH h n (t.head?.map (·.x))) t)
def hsC (f : List Nd) : List Nd := mkC (hsN ((f.head?.getD n0).v) f)
/-! the highest behind: the rest behind, and where it begins -/
def fallN (n : Nd) (o : Option (Rat × Rat)) : List Nd :=
  match o with
  | none => [⟨n.x, lar n.v n.s, n.s, n.k⟩]
  | some (rest, last) => if lineAt n last < rest then (if rest < n.s then [⟨n.x, lar n.v n.s, n.s, n.k⟩, ⟨n.x + (rest - n.s) / n.k, rest, rest, 0⟩] else [⟨n.x, lar n.v rest, rest, 0⟩])
      else [⟨n.x, lar n.v n.s, n.s, n.k⟩]
def hbSome (n : Nd) (o : Option (Rat × Rat)) : List Nd :=
  match o with
  | none => fallN n none
  | some (rest, last) => if n.k < 0 then fallN n (some (rest, last)) else [⟨n.x, lar n.v (lar rest (lineAt n last)), lar rest (lineAt n last), 0⟩]
/-- the nodes from the end on: those found, and the rest with its income -/
def hbN : List Nd → List Nd × Option (Rat × Rat)
  | [] => ([], none)
  | n :: t => (hbSome n (hbN t).2 ++ (hbN t).1, some (((hbSome n (hbN t).2).head?.getD n0).v, n.x))
def hbC (f : List Nd) : List Nd := mkC (hbN f).1
/-! between rates -/
def lbC (f : List Nd) (low high : Option Rat) : Option (List Nd) :=
  if (match high with | none => false | some h => decide (h < (f.getLast?.getD n0).k)) = true then none
  else
    let a := match high with | none => f | some h => sumC (hbC (subC f (lineC h))) (lineC h)
    some (match low with | none => a | some l => larC a (sumC (hsC (subC f (lineC l))) (lineC l)))
/-- a jump from a to b is let by the rates -/
def stepOk (low high : Option Rat) (a b : Rat) : Bool := (low.isNone || !decide (b < a)) && (high.isNone || !decide (a < b))
def slopeOk (low high : Option Rat) (k : Rat) : Bool :=
  (match low with | none => true | some l => !decide (k < l)) && (match high with | none => true | some h => !decide (h < k))
def stepsOk (low high : Option Rat) : Option Nd → List Nd → Bool
  | _, [] => true
  | o, n :: t => (match o with | none => true | some m => stepOk low high (lineAt m n.x) n.v) && (stepOk low high n.v n.s && stepsOk low high (some n) t)
def keepsC (f : List Nd) (low high : Option Rat) : Bool := f.all (fun n => slopeOk low high n.k) && stepsOk low high none f
inductive Sd where
  | at_
  | after
  | before
deriving DecidableEq
/-- the number at a place -/
def numAt (f : List Nd) (y : Rat) : Sd → Rat
  | .at_ => vl f y
  | .after => st f y
  | .before => lineAt (((f.filter fun n => decide (n.x < y)).getLast?).getD n0) y
def placesOf (y : Rat) : List (Rat × Sd) := [(y, .at_), (y, .after)] ++ (if 0 < y then [(y, .before)] else [])
def places (f : List Nd) (y : Rat) : List (Rat × Sd) := (f.map (·.x) ++ [y]).flatMap placesOf
def leadsC (f : List Nd) (low high : Option Rat) (y : Rat) (p : Rat × Sd) (q : Rat) : Bool :=
  if p.1 = y ∧ p.2 = .at_ then decide (numAt f p.1 p.2 = q)
  else if p.1 < y ∨ (p.1 = y ∧ p.2 = .before) then (match low with | none => false | some l => decide (numAt f p.1 p.2 + l * (y - p.1) = q))
  else (match high with | none => false | some h => decide (numAt f p.1 p.2 - h * (p.1 - y) = q))
def reachC (f : List Nd) (low high : Option Rat) (y : Rat) : Option (Rat × Sd) :=
  match lbC f low high with
  | none => none
  | some g => (places f y).find? fun p => leadsC f low high y p (vl g y)
end K66
set_option Elab.async false
set_option linter.all false
set_option autoImplicit false
set_option maxRecDepth 100000
set_option maxHeartbeats 4000000
/-! KW0: what a value stands for (Fp, Kp), and expressions that evaluate to such data (EvK). -/
namespace K66
open PySem PySem.Spec PyProof.Rows L2
open Evl (Ex EvT)
abbrev Fg := PySem.W.Frag
/-! ### data that never changes: tuples, ints, texts, None -/
mutual
inductive Fp (K : Fg) (H : Hp) : V → PyData → Prop
  | non : Fp K H .non .none
  | bl (b : Bool) : Fp K H (.bl b) (.bool b)
  | int (i : Int) : Fp K H (.int i) (.int i)
  | str (x : Str) : Fp K H (.str x) (.str x)
  | tup {a : Addr} {xs : List V} {ds : List PyData} : SqT K H a xs → FpAll K H xs ds → Fp K H (.ref a) (.tuple ds)
inductive FpAll (K : Fg) (H : Hp) : List V → List PyData → Prop
  | nil : FpAll K H [] []
  | cons {v : V} {vs : List V} {d : PyData} {ds : List PyData} : Fp K H v d → FpAll K H vs ds → FpAll K H (v :: vs) (d :: ds)
end
/-- all but lists stays -/
def Tx (H H' : Hp) : Prop := ∀ a o, H a = some o → (∀ xs, o ≠ .lst xs) → H' a = some o
theorem Tx.of {H H' : Hp} (e : Ex H H') : Tx H H' := fun a o h _ => e a o h
theorem Tx.refl (H : Hp) : Tx H H := fun _ _ h _ => h
theorem Tx.trans {H H1 H2 : Hp} (a : Tx H H1) (b : Tx H1 H2) : Tx H H2 := fun c o h n => b c o (a c o h n) n
theorem Tx.upd {H : Hp} {l : Addr} {vs : List V} {o : HO} (h : H l = some (.lst vs)) : Tx H (upd H l o) := fun a u ha hn => by
  rw [upd_ne]
  · exact ha
  · intro q
    rw [q, h] at ha
    exact hn vs (Option.some.inj ha).symm
theorem tx_seq {K : Fg} {H H' : Hp} {a : Addr} {xs : List V} (e : Tx H H') (h : SqT K H a xs) : SqT K H' a xs := by
  rcases h with (h | ⟨o, h⟩) | h
  · exact .inl (.inl (e _ _ h fun _ q => nomatch q))
  · exact .inl (.inr ⟨o, e _ _ h fun _ q => nomatch q⟩)
  · exact .inr h
mutual
theorem Fp.mono {K : Fg} {H H' : Hp} (e : Tx H H') : ∀ {v : V} {d : PyData}, Fp K H v d → Fp K H' v d
  | _, _, .non => .non
  | _, _, .bl b => .bl b
  | _, _, .int i => .int i
  | _, _, .str x => .str x
  | _, _, .tup h a => .tup (tx_seq e h) (FpAll.mono e a)
theorem FpAll.mono {K : Fg} {H H' : Hp} (e : Tx H H') : ∀ {vs : List V} {ds : List PyData}, FpAll K H vs ds → FpAll K H' vs ds
  | _, _, .nil => .nil
  | _, _, .cons h t => .cons (Fp.mono e h) (FpAll.mono e t)
end
mutual
theorem Fp.map {K : Fg} {H H' : Hp} (e : ∀ a xs, SqT K H a xs → SqT K H' a xs) : ∀ {v : V} {d : PyData}, Fp K H v d → Fp K H' v d
  | _, _, .non => .non
  | _, _, .bl b => .bl b
  | _, _, .int i => .int i
  | _, _, .str x => .str x
  | _, _, .tup h a => .tup (e _ _ h) (FpAll.map e a)
theorem FpAll.map {K : Fg} {H H' : Hp} (e : ∀ a xs, SqT K H a xs → SqT K H' a xs) : ∀ {vs : List V} {ds : List PyData}, FpAll K H vs ds → FpAll K H' vs ds
  | _, _, .nil => .nil
  | _, _, .cons h t => .cons (Fp.map e h) (FpAll.map e t)
end
theorem sq_ins {K : Fg} {H : Hp} {p C dx : Addr} {fs : List (Str × V)} {o : HO} (h : H p = some (.ins C dx fs)) : ∀ a xs, SqT K H a xs → SqT K (L2.upd H p o) a xs := by
  intro a xs q
  rcases q with (q | ⟨u, q⟩) | q
  · refine .inl (.inl ?_)
    rw [upd_ne (ne_of q h (by intro z; cases z))]
    exact q
  · refine .inl (.inr ⟨u, ?_⟩)
    rw [upd_ne (ne_of q h (by intro z; cases z))]
    exact q
  · exact .inr q
mutual
theorem Fp.dp {K : Fg} {H : Hp} : ∀ {v : V} {d : PyData}, Fp K H v d → Dp K H v d
  | _, _, .non => .non
  | _, _, .bl b => .bl b
  | _, _, .int i => .int i
  | _, _, .str x => .str x
  | _, _, .tup h a => .tup h (FpAll.dp a)
theorem FpAll.dp {K : Fg} {H : Hp} : ∀ {vs : List V} {ds : List PyData}, FpAll K H vs ds → DpAll K H vs ds
  | _, _, .nil => .nil
  | _, _, .cons h t => .cons (Fp.dp h) (FpAll.dp t)
end
section
variable {K : Fg} {H H' : Hp}
theorem FpAll.length {vs : List V} {ds : List PyData} (h : FpAll K H vs ds) : vs.length = ds.length := by
  induction vs generalizing ds with
  | nil => cases h; rfl
  | cons v vs ih =>
    cases h with
    | cons h t => simp [ih t]
theorem FpAll.at_ {vs : List V} {ds : List PyData} (h : FpAll K H vs ds) {i : Nat} {d : PyData} (e : ds[i]? = some d) : ∃ v, vs[i]? = some v ∧ Fp K H v d := by
  induction vs generalizing ds i with
  | nil => cases h; simp at e
  | cons v vs ih =>
    cases h with
    | cons h t =>
      cases i with
      | zero => simp at e; subst e; exact ⟨v, by simp, h⟩
      | succ i => simp at e; simpa using ih t e
theorem FpAll.of_at {vs : List V} {ds : List PyData} (h : FpAll K H vs ds) {i : Nat} {v : V} (e : vs[i]? = some v) : ∃ d, ds[i]? = some d ∧ Fp K H v d := by
  induction vs generalizing ds i with
  | nil => simp at e
  | cons w vs ih =>
    cases h with
    | cons h t =>
      cases i with
      | zero => simp at e; subst e; exact ⟨_, by simp, h⟩
      | succ i => simp at e; simpa using ih t e
theorem FpAll.append {vs ws : List V} {ds es : List PyData} (h : FpAll K H vs ds) (g : FpAll K H ws es) : FpAll K H (vs ++ ws) (ds ++ es) := by
  induction vs generalizing ds with
  | nil => cases h; exact g
  | cons v vs ih =>
    cases h with
    | cons h t => exact .cons h (ih t)
theorem FpAll.take {vs : List V} {ds : List PyData} (h : FpAll K H vs ds) (n : Nat) : FpAll K H (vs.take n) (ds.take n) := by
  induction vs generalizing ds n with
  | nil => cases h; simp; exact .nil
  | cons v vs ih =>
    cases h with
    | cons h t =>
      cases n with
      | zero => exact .nil
      | succ n => exact .cons h (ih t n)
theorem FpAll.drop {vs : List V} {ds : List PyData} (h : FpAll K H vs ds) (n : Nat) : FpAll K H (vs.drop n) (ds.drop n) := by
  induction vs generalizing ds n with
  | nil => cases h; simp; exact .nil
  | cons v vs ih =>
    cases h with
    | cons h t =>
      cases n with
      | zero => exact .cons h t
      | succ n => simpa using ih t n
theorem FpAll.reverse {vs : List V} {ds : List PyData} (h : FpAll K H vs ds) : FpAll K H vs.reverse ds.reverse := by
  induction vs generalizing ds with
  | nil => cases h; exact .nil
  | cons v vs ih =>
    cases h with
    | cons h t =>
      rw [List.reverse_cons, List.reverse_cons]
      exact (ih t).append (.cons h .nil)
theorem FpAll.atI {vs : List V} {ds : List PyData} (h : FpAll K H vs ds) {i : Int} {d : PyData} (e : L2.atI ds i = some d) : ∃ v, L2.atI vs i = some v ∧ Fp K H v d := by
  unfold L2.atI at e ⊢
  rw [h.length]
  cases q : ixN ds.length i with
  | none => rw [q] at e; cases e
  | some j =>
    rw [q] at e
    exact h.at_ e
theorem Fp.intE {v : V} {i : Int} (h : Fp K H v (.int i)) : v = .int i := by cases h; rfl
theorem Fp.blE {v : V} {b : Bool} (h : Fp K H v (.bool b)) : v = .bl b := by cases h; rfl
theorem Fp.strE {v : V} {x : Str} (h : Fp K H v (.str x)) : v = .str x := by cases h; rfl
theorem Fp.nonE {v : V} (h : Fp K H v .none) : v = .non := by cases h; rfl
theorem Fp.tupE {v : V} {ds : List PyData} (h : Fp K H v (.tuple ds)) : ∃ a xs, v = .ref a ∧ SqT K H a xs ∧ FpAll K H xs ds := by
  cases h with
  | tup h a => exact ⟨_, _, rfl, h, a⟩
end

/-! ### numbers, nodes -/
abbrev numD (q : Rat) : PyData := .tuple [.int q.num, .int (q.den : Int)]
abbrev nodeD (n : Nd) : PyData := .tuple [numD n.x, numD n.v, numD n.s, numD n.k]
def nodesD (ns : List Nd) : List PyData := ns.map nodeD

/-! ### what a value is: data; a list of data; a curve -/
inductive KD where
  | d (x : PyData)
  | l (xs : List PyData)
  | c (ns : List Nd)
/-- the facts of the text that words lean on: K the written part, C the class of curves -/
structure Cv where
  K : Fg
  C : Addr
def CrvR (c : Cv) (H : Hp) (v : V) (ns : List Nd) : Prop := ∃ p dx t, v = .ref p ∧ H p = some (.ins c.C dx [("nodes", .ref t)]) ∧ Fp c.K H (.ref t) (.tuple (nodesD ns))
def LstR (c : Cv) (H : Hp) (v : V) (ds : List PyData) : Prop := ∃ a vs, v = .ref a ∧ H a = some (.lst vs) ∧ FpAll c.K H vs ds
def Kp (c : Cv) (H : Hp) (v : V) : KD → Prop
  | .d x => Fp c.K H v x
  | .l ds => LstR c H v ds
  | .c ns => CrvR c H v ns
theorem CrvR.tmono {c : Cv} {H H' : Hp} {v : V} {ns : List Nd} (e : Tx H H') (h : CrvR c H v ns) : CrvR c H' v ns := by
  obtain ⟨p, dx, t, rfl, h1, h2⟩ := h
  exact ⟨p, dx, t, rfl, e _ _ h1 (fun _ q => nomatch q), h2.mono e⟩
theorem Kp.mono {c : Cv} {H H' : Hp} {v : V} {kd : KD} (e : Ex H H') (h : Kp c H v kd) : Kp c H' v kd := by
  cases kd with
  | d x => exact Fp.mono (Tx.of e) h
  | l ds =>
    obtain ⟨a, vs, rfl, h1, h2⟩ := h
    exact ⟨a, vs, rfl, e _ _ h1, h2.mono (Tx.of e)⟩
  | c ns => exact CrvR.tmono (Tx.of e) h

/-! ### expressions that evaluate to such values -/
section
variable {c : Cv} {σ : L2.St} {H H' : Hp} {ta tb te tx : TE} {t u : TT} {kd : KD} {D : Ends} {tu tw : TS}
def EvK (c : Cv) (te : TE) (σ : L2.St) (H : Hp) (kd : KD) : Prop := ∀ H1, Ex H H1 → ∀ Q : VK, (∀ v H2, Ex H1 H2 → Kp c H2 v kd → Q v H2) → te σ H1 Q
/-- a list that was made on the way -/
def EvF (c : Cv) (te : TE) (σ : L2.St) (H : Hp) (ds : List PyData) : Prop := ∀ H1, Ex H H1 → ∀ Q : VK, (∀ p vs H2, H1 p = none → Ex H1 H2 → H2 p = some (.lst vs) → FpAll c.K H2 vs ds → Q (.ref p) H2) → te σ H1 Q
/-- several values -/
def KpAll (c : Cv) (H : Hp) : List V → List KD → Prop := Paired (fun v kd => Kp c H v kd)
def EvA (c : Cv) (ta : TA) (σ : L2.St) (H : Hp) (ks : List KD) : Prop := ∀ H1, Ex H H1 → ∀ Q : List V → Hp → Prop, (∀ vs H2, Ex H1 H2 → KpAll c H2 vs ks → Q vs H2) → ta σ H1 Q
def EvAD (c : Cv) (ta : TA) (σ : L2.St) (H : Hp) (ds : List PyData) : Prop := ∀ H1, Ex H H1 → ∀ Q : List V → Hp → Prop, (∀ vs H2, Ex H1 H2 → FpAll c.K H2 vs ds → Q vs H2) → ta σ H1 Q
theorem KpAll.mono {ks : List KD} {vs : List V} (e : Ex H H') (h : KpAll c H vs ks) : KpAll c H' vs ks := by
  induction ks generalizing vs with
  | nil => cases h; exact .nil
  | cons k ks ih =>
    cases h with
    | cons h t => exact .cons (Kp.mono e h) (ih t)
theorem EvK.mono (e : Ex H H') (h : EvK c te σ H kd) : EvK c te σ H' kd := fun H1 a Q q => h H1 (e.trans a) Q q
theorem EvF.mono {ds : List PyData} (e : Ex H H') (h : EvF c te σ H ds) : EvF c te σ H' ds := fun H1 a Q q => h H1 (e.trans a) Q q
theorem EvT.mono' {b : Bool} (e : Ex H H') (h : EvT t σ H b) : EvT t σ H' b := fun H1 a Q q => h H1 (e.trans a) Q q
theorem EvF.k {ds : List PyData} (h : EvF c te σ H ds) : EvK c te σ H (.l ds) := fun H1 a Q q => h H1 a Q fun p vs H2 _ e hp r => q _ H2 e ⟨p, vs, rfl, hp, r⟩
theorem ev_var {i : Nat} {v : V} (h : σ[i]? = some (some v)) (r : Kp c H v kd) : EvK c (tVar i) σ H kd := fun H1 e Q q => ⟨v, h, q v H1 (Ex.refl H1) (r.mono e)⟩
theorem ev_int {i : Int} : EvK c (tC (.int i)) σ H (.d (.int i)) := fun H1 _ Q q => q _ H1 (Ex.refl H1) (.int i)
theorem ev_str {x : Str} : EvK c (tC (.str x)) σ H (.d (.str x)) := fun H1 _ Q q => q _ H1 (Ex.refl H1) (.str x)
theorem ev_bl {b : Bool} : EvK c (tC (.bl b)) σ H (.d (.bool b)) := fun H1 _ Q q => q _ H1 (Ex.refl H1) (.bl b)
theorem ev_non : EvK c (tC .non) σ H (.d .none) := fun H1 _ Q q => q _ H1 (Ex.refl H1) .non
theorem ev_glob {v : V} (r : Kp c H v kd) : EvK c (tC v) σ H kd := fun H1 e Q q => q _ H1 (Ex.refl H1) (r.mono e)
theorem ev_is {kd' : KD} (h : EvK c te σ H kd) (e : kd = kd') : EvK c te σ H kd' := e ▸ h
theorem et_is {b b' : Bool} (h : EvT t σ H b) (e : b = b') : EvT t σ H b' := e ▸ h
/-- a two-place operation on values -/
def RvK (c : Cv) (r : R2) (k1 k2 : KD) (H : Hp) (kd : KD) : Prop := ∀ H1, Ex H H1 → ∀ x y, Kp c H1 x k1 → Kp c H1 y k2 → ∀ Q : VK, (∀ v H2, Ex H1 H2 → Kp c H2 v kd → Q v H2) → r x y H1 Q
theorem ev_op {r : R2} {k1 k2 : KD} (ha : EvK c ta σ H k1) (hb : EvK c tb σ H k2) (hr : RvK c r k1 k2 H kd) : EvK c (tOp r ta tb) σ H kd := fun H1 e Q q =>
  ha H1 e _ fun x H2 e2 rx => hb H2 (e.trans e2) _ fun y H3 e3 ry => hr H3 ((e.trans e2).trans e3) x y (rx.mono e3) ry Q fun v H4 e4 => q v H4 ((e2.trans e3).trans e4)
theorem ev_I {C : Int → Int → Prop} {g : Int → Int → Int} {i j : Int} (ha : EvK c ta σ H (.d (.int i))) (hb : EvK c tb σ H (.d (.int j))) (hc : C i j) : EvK c (tOp (rI C fun i j => .int (g i j)) ta tb) σ H (.d (.int (g i j))) :=
  ev_op ha hb fun H1 _ x y rx ry Q q => ⟨i, j, Fp.intE rx, Fp.intE ry, hc, q _ H1 (Ex.refl H1) (.int _)⟩
theorem ev_I0 {g : Int → Int → Int} {i j : Int} (ha : EvK c ta σ H (.d (.int i))) (hb : EvK c tb σ H (.d (.int j))) : EvK c (tOp (rI0 fun i j => .int (g i j)) ta tb) σ H (.d (.int (g i j))) :=
  ev_op ha hb fun H1 _ x y rx ry Q q => ⟨i, j, Fp.intE rx, Fp.intE ry, q _ H1 (Ex.refl H1) (.int _)⟩
theorem ev_B0 {g : Int → Int → Bool} {i j : Int} (ha : EvK c ta σ H (.d (.int i))) (hb : EvK c tb σ H (.d (.int j))) : EvK c (tOp (rI0 fun i j => .bl (g i j)) ta tb) σ H (.d (.bool (g i j))) :=
  ev_op ha hb fun H1 _ x y rx ry Q q => ⟨i, j, Fp.intE rx, Fp.intE ry, q _ H1 (Ex.refl H1) (.bl _)⟩
theorem ev_neg {i : Int} (ha : EvK c ta σ H (.d (.int i))) : EvK c (tUn (rU fun i => .int (-i)) ta) σ H (.d (.int (-i))) := fun H1 e Q q =>
  ha H1 e _ fun x H2 e2 rx => ⟨i, Fp.intE rx, q _ H2 e2 (.int _)⟩
theorem ev_ixT {ds : List PyData} {i : Int} {d : PyData} (ha : EvK c ta σ H (.d (.tuple ds))) (hb : EvK c tb σ H (.d (.int i))) (hd : L2.atI ds i = some d) : EvK c (tOp (rIxT c.K) ta tb) σ H (.d d) :=
  ev_op ha hb fun H1 _ x y rx ry Q q => by
    obtain ⟨a, xs, rfl, hs, hx⟩ := Fp.tupE rx
    obtain ⟨v, hv, rv⟩ := hx.atI hd
    exact ⟨a, xs, i, v, rfl, Fp.intE ry, hs, hv, q v H1 (Ex.refl H1) rv⟩
theorem ev_ixL {ds : List PyData} {i : Int} {d : PyData} (ha : EvK c ta σ H (.l ds)) (hb : EvK c tb σ H (.d (.int i))) (hd : L2.atI ds i = some d) : EvK c (tOp (rIxL c.K) ta tb) σ H (.d d) :=
  ev_op ha hb fun H1 _ x y rx ry Q q => by
    obtain ⟨a, xs, rfl, hs, hx⟩ := (show LstR c H1 x ds from rx)
    obtain ⟨v, hv, rv⟩ := hx.atI hd
    exact ⟨a, xs, i, v, rfl, Fp.intE ry, SqL.of hs, hv, q v H1 (Ex.refl H1) rv⟩
/-- == and != of data; a list may be one side -/
inductive KDat : KD → PyData → Prop
  | d (x : PyData) : KDat (.d x) x
  | l (xs : List PyData) : KDat (.l xs) (.list xs)
theorem KDat.dp {x : PyData} {v : V} (h : KDat kd x) (r : Kp c H v kd) : Dp c.K H v x := by
  cases h with
  | d x => exact Fp.dp r
  | l xs =>
    obtain ⟨a, vs, rfl, h1, h2⟩ := (show LstR c H v xs from r)
    exact .lst (SqL.of h1) h2.dp
theorem ev_eqD {k1 k2 : KD} {d e : PyData} (ha : EvK c ta σ H k1) (hb : EvK c tb σ H k2) (h1 : KDat k1 d) (h2 : KDat k2 e) (s1 : SeqAt.shaped d = true) (s2 : SeqAt.shaped e = true) : EvK c (tOp (rEqD c.K) ta tb) σ H (.d (.bool (PyData.eqv d e))) :=
  ev_op ha hb fun H1 _ x y rx ry Q q => ⟨d, e, h1.dp rx, h2.dp ry, s1, s2, q _ H1 (Ex.refl H1) (.bl _)⟩
theorem ev_neD {k1 k2 : KD} {d e : PyData} (ha : EvK c ta σ H k1) (hb : EvK c tb σ H k2) (h1 : KDat k1 d) (h2 : KDat k2 e) (s1 : SeqAt.shaped d = true) (s2 : SeqAt.shaped e = true) : EvK c (tOp (rNeD c.K) ta tb) σ H (.d (.bool (!PyData.eqv d e))) :=
  ev_op ha hb fun H1 _ x y rx ry Q q => ⟨d, e, h1.dp rx, h2.dp ry, s1, s2, q _ H1 (Ex.refl H1) (.bl _)⟩
/-- is None: what is asked of is a datum or a curve -/
def isN : KD → Bool
  | .d .none => true
  | _ => false
theorem isN_of {v : V} (r : Kp c H v kd) : decide (v = .non) = isN kd := by
  cases kd with
  | d x =>
    cases r with
    | non => rfl
    | bl b => rfl
    | int i => rfl
    | str x => rfl
    | tup h a => rfl
  | l ds => obtain ⟨a, vs, rfl, _⟩ := r; rfl
  | c ns => obtain ⟨p, dx, t, rfl, _⟩ := r; rfl
theorem ev_isN (ha : EvK c ta σ H kd) : EvK c (tOp (fun x y H Q => y = .non ∧ Q (.bl (decide (x = .non))) H) ta (tC .non)) σ H (.d (.bool (isN kd))) := fun H1 e Q q =>
  ha H1 e _ fun x H2 e2 rx => ⟨rfl, q _ H2 e2 (by rw [isN_of rx]; exact .bl _)⟩
theorem ev_notN (ha : EvK c ta σ H kd) : EvK c (tOp (fun x y H Q => y = .non ∧ Q (.bl (!decide (x = .non))) H) ta (tC .non)) σ H (.d (.bool (!isN kd))) := fun H1 e Q q =>
  ha H1 e _ fun x H2 e2 rx => ⟨rfl, q _ H2 e2 (by rw [isN_of rx]; exact .bl _)⟩
/-! tests -/
theorem et_val {b : Bool} (h : EvK c te σ H (.d (.bool b))) : EvT (tB te) σ H b := fun H1 e Q q => h H1 e _ fun v H2 e2 r => ⟨b, Fp.blE r, q H2 e2⟩
theorem et_test {b : Bool} (h : EvK c te σ H (.d (.bool b))) : EvT (tTest te) σ H b := fun H1 e Q q => h H1 e _ fun v H2 e2 r => ⟨b, Fp.blE r, q H2 e2⟩
theorem ev_if {b : Bool} (h : EvT t σ H b) (h1 : b = true → EvK c ta σ H kd) (h2 : b = false → EvK c tb σ H kd) : EvK c (tIf t ta tb) σ H kd := fun H1 e Q q => h H1 e _ fun H2 e2 => by
  cases b with
  | true => exact h1 rfl H2 (e.trans e2) Q fun v H3 e3 => q v H3 (e2.trans e3)
  | false => exact h2 rfl H2 (e.trans e2) Q fun v H3 e3 => q v H3 (e2.trans e3)
theorem ev_ifd {b : Bool} {k1 k2 : KD} (h : EvT t σ H b) (h1 : b = true → EvK c ta σ H k1) (h2 : b = false → EvK c tb σ H k2) : EvK c (tIf t ta tb) σ H (if b = true then k1 else k2) := ev_if h
  (fun z => ev_is (h1 z) (by rw [z]; rfl)) (fun z => ev_is (h2 z) (by rw [z]; rfl))
theorem ev_andV {a b : Bool} (h1 : EvK c ta σ H (.d (.bool a))) (h2 : a = true → EvK c tb σ H (.d (.bool b))) : EvK c (tAndV ta tb) σ H (.d (.bool (a && b))) := fun H1 e Q q => h1 H1 e _ fun v H2 e2 r => ⟨a, Fp.blE r, by
  cases a with
  | true => exact h2 rfl H2 (e.trans e2) Q fun v H3 e3 => q v H3 (e2.trans e3)
  | false => exact q _ H2 e2 (.bl _)⟩
theorem ev_orV {a b : Bool} (h1 : EvK c ta σ H (.d (.bool a))) (h2 : a = false → EvK c tb σ H (.d (.bool b))) : EvK c (tOrV ta tb) σ H (.d (.bool (a || b))) := fun H1 e Q q => h1 H1 e _ fun v H2 e2 r => ⟨a, Fp.blE r, by
  cases a with
  | true => exact q _ H2 e2 (.bl _)
  | false => exact h2 rfl H2 (e.trans e2) Q fun v H3 e3 => q v H3 (e2.trans e3)⟩
theorem ev_notV {a : Bool} (h1 : EvK c ta σ H (.d (.bool a))) : EvK c (tNotV ta) σ H (.d (.bool (!a))) := fun H1 e Q q => h1 H1 e _ fun v H2 e2 r => ⟨a, Fp.blE r, q _ H2 e2 (.bl _)⟩
theorem et_and {a b : Bool} (h1 : EvT t σ H a) (h2 : a = true → EvT u σ H b) : EvT (tAnd t u) σ H (a && b) := Evl.et_and h1 h2
theorem et_or {a b : Bool} (h1 : EvT t σ H a) (h2 : a = false → EvT u σ H b) : EvT (tOr t u) σ H (a || b) := Evl.et_or h1 h2
theorem et_not {a : Bool} (h1 : EvT t σ H a) : EvT (tNot t) σ H (!a) := Evl.et_not h1
/-! arguments, displays -/
theorem ea_nil : EvA c tNil σ H [] := fun H1 _ _ q => q [] H1 (Ex.refl H1) .nil
theorem ea_cons {tr : TA} {ks : List KD} (h : EvK c te σ H kd) (hr : EvA c tr σ H ks) : EvA c (tCons te tr) σ H (kd :: ks) := fun H1 e _ q =>
  h H1 e _ fun v H2 e2 r => hr H2 (e.trans e2) _ fun vs H3 e3 rs => q _ H3 (e2.trans e3) (.cons (r.mono e3) rs)
theorem ed_nil : EvAD c tNil σ H [] := fun H1 _ _ q => q [] H1 (Ex.refl H1) .nil
theorem ed_cons {tr : TA} {d : PyData} {ds : List PyData} (h : EvK c te σ H (.d d)) (hr : EvAD c tr σ H ds) : EvAD c (tCons te tr) σ H (d :: ds) := fun H1 e _ q =>
  h H1 e _ fun v H2 e2 r => hr H2 (e.trans e2) _ fun vs H3 e3 rs => q _ H3 (e2.trans e3) (.cons (Fp.mono (Tx.of e3) r) rs)
theorem ev_tup {ta : TA} {ds : List PyData} (h : EvAD c ta σ H ds) (hl : ds.length ≤ 1000 := by exact Nat.le_of_ble_eq_true rfl) : EvK c (tTup ta) σ H (.d (.tuple ds)) := fun H1 e _ q =>
  h H1 e _ fun vs H2 e2 r => ⟨by rw [r.length]; exact Nat.le_trans hl (by decide), fun p hp => q _ _ (e2.trans (Ex.new hp)) (.tup (SqT.of upd_same) (r.mono (Tx.of (Ex.new hp))))⟩
theorem ef_lst {ta : TA} {ds : List PyData} (h : EvAD c ta σ H ds) (hl : ds.length ≤ 1000 := by exact Nat.le_of_ble_eq_true rfl) : EvF c (tLst ta) σ H ds := fun H1 e _ q =>
  h H1 e _ fun vs H2 e2 r => ⟨by rw [r.length]; exact Nat.le_trans hl (by decide), fun p hp => q p vs _ (Evl.fresh_back e2 hp) (e2.trans (Ex.new hp)) upd_same (r.mono (Tx.of (Ex.new hp)))⟩
/-! calls -/
/-- a def that reads its arguments and gives a value: from data to data -/
def spF (c : Cv) (R : List KD → KD → Prop) : Sp := fun vs H Q _ => ∃ ks kd, KpAll c H vs ks ∧ R ks kd ∧ ∀ v H', Ex H H' → Kp c H' v kd → Q v H'
theorem ev_call {R : List KD → KD → Prop} {ta : TA} {ks : List KD} {E : XK} (h : EvA c ta σ H ks) (hr : R ks kd) : EvK c (tCall (spF c R) [] E ta) σ H kd := fun H1 e Q q =>
  h H1 e _ fun vs H2 e2 r => ⟨ks, kd, by rw [List.append_nil]; exact r, hr, fun v H3 e3 rv => q v H3 (e2.trans e3) rv⟩
theorem ev_cb {r : List V → Hp → VK → Prop} {ta : TA} {ks : List KD} (h : EvA c ta σ H ks) (hr : ∀ H1, Ex H H1 → ∀ vs, KpAll c H1 vs ks → ∀ Q : VK, (∀ v H2, Ex H1 H2 → Kp c H2 v kd → Q v H2) → r vs H1 Q) : EvK c (tCB r ta) σ H kd := fun H1 e Q q =>
  h H1 e _ fun vs H2 e2 rv => hr H2 (e.trans e2) vs rv Q fun v H3 e3 => q v H3 (e2.trans e3)
theorem KpAll.one {vs : List V} {k1 : KD} (h : KpAll c H vs [k1]) : ∃ v, vs = [v] ∧ Kp c H v k1 := by
  cases h with
  | cons h t => cases t; exact ⟨_, rfl, h⟩
theorem KpAll.two {vs : List V} {k1 k2 : KD} (h : KpAll c H vs [k1, k2]) : ∃ v w, vs = [v, w] ∧ Kp c H v k1 ∧ Kp c H w k2 := by
  cases h with
  | cons h t =>
    obtain ⟨w, rfl, hw⟩ := KpAll.one t
    exact ⟨_, w, rfl, h, hw⟩
theorem KpAll.three {vs : List V} {k1 k2 k3 : KD} (h : KpAll c H vs [k1, k2, k3]) : ∃ v w z, vs = [v, w, z] ∧ Kp c H v k1 ∧ Kp c H w k2 ∧ Kp c H z k3 := by
  cases h with
  | cons h t =>
    obtain ⟨w, z, rfl, hw, hz⟩ := KpAll.two t
    exact ⟨_, w, z, rfl, h, hw, hz⟩
theorem KpAll.four {vs : List V} {k1 k2 k3 k4 : KD} (h : KpAll c H vs [k1, k2, k3, k4]) : ∃ v w z y, vs = [v, w, z, y] ∧ Kp c H v k1 ∧ Kp c H w k2 ∧ Kp c H z k3 ∧ Kp c H y k4 := by
  cases h with
  | cons h t =>
    obtain ⟨w, z, y, rfl, hw, hz, hy⟩ := KpAll.three t
    exact ⟨_, w, z, y, rfl, h, hw, hz, hy⟩
theorem KpAll.six {vs : List V} {k1 k2 k3 k4 k5 k6 : KD} (h : KpAll c H vs [k1, k2, k3, k4, k5, k6]) : ∃ v w z y x u, vs = [v, w, z, y, x, u] ∧ Kp c H v k1 ∧ Kp c H w k2 ∧ Kp c H z k3 ∧ Kp c H y k4 ∧ Kp c H x k5 ∧ Kp c H u k6 := by
  cases h with
  | cons h t =>
    cases t with
    | cons h2 t =>
      obtain ⟨z, y, x, u, rfl, hz, hy, hx, hu⟩ := KpAll.four t
      exact ⟨_, _, z, y, x, u, rfl, h, h2, hz, hy, hx, hu⟩
/-! statements -/
theorem s_asg {i : Nat} (h : EvK c te σ H kd) (k : ∀ v H1, Ex H H1 → Kp c H1 v kd → D.nx (σ.set i (some v)) H1) : tAsg te (gName i) D σ H := h H (Ex.refl H) _ fun v H1 e r => k v H1 e r
theorem s_asgF {i : Nat} {ds : List PyData} (h : EvF c te σ H ds) (k : ∀ p vs H1, H p = none → Ex H H1 → H1 p = some (.lst vs) → FpAll c.K H1 vs ds → D.nx (σ.set i (some (.ref p))) H1) : tAsg te (gName i) D σ H := h H (Ex.refl H) _ fun p vs H1 hp e h1 r => k p vs H1 hp e h1 r
theorem s_ret (h : EvK c te σ H kd) (k : ∀ v H1, Ex H H1 → Kp c H1 v kd → D.rt v H1) : tRet te D σ H := h H (Ex.refl H) _ k
theorem s_if {b : Bool} (h : EvT t σ H b) (h1 : b = true → ∀ H1, Ex H H1 → tu D σ H1) (h2 : b = false → ∀ H1, Ex H H1 → tw D σ H1) : tIfS t tu tw D σ H := Evl.s_if h h1 h2
/-- an if that is not taken, and has no else -/
theorem s_ifF (h : EvT t σ H false) (k : ∀ H1, Ex H H1 → D.nx σ H1) : tIfS t tu tNext D σ H := Evl.s_if h (fun z => nomatch z) fun _ H1 e => k H1 e
/-- an if without else, whichever way -/
theorem s_ifE {b : Bool} (h : EvT t σ H b) (h1 : b = true → ∀ H1, Ex H H1 → tu D σ H1) (k : b = false → ∀ H1, Ex H H1 → D.nx σ H1) : tIfS t tu tNext D σ H := Evl.s_if h h1 k
theorem s_par {i j : Nat} {ta : TA} {k1 k2 : KD} (h : EvA c ta σ H [k1, k2]) (k : ∀ v w H1, Ex H H1 → Kp c H1 v k1 → Kp c H1 w k2 → D.nx ((σ.set i (some v)).set j (some w)) H1) : tPar i j ta D σ H :=
  h H (Ex.refl H) _ fun vs H1 e r => by
    obtain ⟨v, w, rfl, hv, hw⟩ := KpAll.two r
    exact ⟨v, w, rfl, k v w H1 e hv hw⟩
theorem s_tup2 {i j : Nat} {d1 d2 : PyData} (h : EvK c te σ H (.d (.tuple [d1, d2]))) (k : ∀ v w H1, Ex H H1 → Fp c.K H1 v d1 → Fp c.K H1 w d2 → D.nx ((σ.set i (some v)).set j (some w)) H1) :
    tAsg te (gTup c.K 2 (gCons (gName i) (gCons (gName j) gNil))) D σ H := h H (Ex.refl H) _ fun x H1 e r => by
  obtain ⟨a, xs, rfl, hs, ha⟩ := Fp.tupE r
  cases ha with
  | cons h1 t =>
    cases t with
    | cons h2 t =>
      cases t
      exact ⟨a, _, rfl, hs, rfl, _, _, rfl, _, _, rfl, rfl, k _ _ H1 e h1 h2⟩
theorem s_tup3 {i j l : Nat} {d1 d2 d3 : PyData} (h : EvK c te σ H (.d (.tuple [d1, d2, d3]))) (k : ∀ v w z H1, Ex H H1 → Fp c.K H1 v d1 → Fp c.K H1 w d2 → Fp c.K H1 z d3 → D.nx (((σ.set i (some v)).set j (some w)).set l (some z)) H1) :
    tAsg te (gTup c.K 3 (gCons (gName i) (gCons (gName j) (gCons (gName l) gNil)))) D σ H := h H (Ex.refl H) _ fun x H1 e r => by
  obtain ⟨a, xs, rfl, hs, ha⟩ := Fp.tupE r
  cases ha with
  | cons h1 t =>
    cases t with
    | cons h2 t =>
      cases t with
      | cons h3 t =>
        cases t
        exact ⟨a, _, rfl, hs, rfl, _, _, rfl, _, _, rfl, _, _, rfl, rfl, k _ _ _ H1 e h1 h2 h3⟩
theorem s_tup4 {i j l m : Nat} {d1 d2 d3 d4 : PyData} (h : EvK c te σ H (.d (.tuple [d1, d2, d3, d4]))) (k : ∀ v w z y H1, Ex H H1 → Fp c.K H1 v d1 → Fp c.K H1 w d2 → Fp c.K H1 z d3 → Fp c.K H1 y d4 → D.nx ((((σ.set i (some v)).set j (some w)).set l (some z)).set m (some y)) H1) :
    tAsg te (gTup c.K 4 (gCons (gName i) (gCons (gName j) (gCons (gName l) (gCons (gName m) gNil))))) D σ H := h H (Ex.refl H) _ fun x H1 e r => by
  obtain ⟨a, xs, rfl, hs, ha⟩ := Fp.tupE r
  cases ha with
  | cons h1 t =>
    cases t with
    | cons h2 t =>
      cases t with
      | cons h3 t =>
        cases t with
        | cons h4 t =>
          cases t
          exact ⟨a, _, rfl, hs, rfl, _, _, rfl, _, _, rfl, _, _, rfl, _, _, rfl, rfl, k _ _ _ _ H1 e h1 h2 h3 h4⟩
/-! the same, with what follows -/
variable {u' : TS}
theorem n_asg {i : Nat} (h : EvK c te σ H kd) (k : ∀ v H1, Ex H H1 → Kp c H1 v kd → tw D (σ.set i (some v)) H1) : tSeq (tAsg te (gName i)) tw D σ H := s_asg (D := { D with nx := tw D }) h k
theorem n_asgF {i : Nat} {ds : List PyData} (h : EvF c te σ H ds) (k : ∀ p vs H1, H p = none → Ex H H1 → H1 p = some (.lst vs) → FpAll c.K H1 vs ds → tw D (σ.set i (some (.ref p))) H1) : tSeq (tAsg te (gName i)) tw D σ H := s_asgF (D := { D with nx := tw D }) h k
theorem n_ifF (h : EvT t σ H false) (k : ∀ H1, Ex H H1 → tw D σ H1) : tSeq (tIfS t tu tNext) tw D σ H := s_ifF (D := { D with nx := tw D }) h k
theorem n_ifE {b : Bool} (h : EvT t σ H b) (h1 : b = true → ∀ H1, Ex H H1 → tu { D with nx := tw D } σ H1) (k : b = false → ∀ H1, Ex H H1 → tw D σ H1) : tSeq (tIfS t tu tNext) tw D σ H := s_ifE (D := { D with nx := tw D }) h h1 k
theorem n_if {b : Bool} (h : EvT t σ H b) (h1 : b = true → ∀ H1, Ex H H1 → tu { D with nx := tw D } σ H1) (k : b = false → ∀ H1, Ex H H1 → u' { D with nx := tw D } σ H1) : tSeq (tIfS t tu u') tw D σ H := s_if (D := { D with nx := tw D }) h h1 k
theorem n_drop (h : EvK c te σ H kd) (k : ∀ H1, Ex H H1 → tw D σ H1) : tSeq (tDrop te) tw D σ H := h H (Ex.refl H) _ fun _ H1 e _ => k H1 e
theorem n_par {i j : Nat} {ta : TA} {k1 k2 : KD} (h : EvA c ta σ H [k1, k2]) (k : ∀ v w H1, Ex H H1 → Kp c H1 v k1 → Kp c H1 w k2 → tw D ((σ.set i (some v)).set j (some w)) H1) : tSeq (tPar i j ta) tw D σ H := s_par (D := { D with nx := tw D }) h k
theorem n_tup2 {i j : Nat} {d1 d2 : PyData} (h : EvK c te σ H (.d (.tuple [d1, d2]))) (k : ∀ v w H1, Ex H H1 → Fp c.K H1 v d1 → Fp c.K H1 w d2 → tw D ((σ.set i (some v)).set j (some w)) H1) :
    tSeq (tAsg te (gTup c.K 2 (gCons (gName i) (gCons (gName j) gNil)))) tw D σ H := s_tup2 (D := { D with nx := tw D }) h k
theorem n_tup3 {i j l : Nat} {d1 d2 d3 : PyData} (h : EvK c te σ H (.d (.tuple [d1, d2, d3]))) (k : ∀ v w z H1, Ex H H1 → Fp c.K H1 v d1 → Fp c.K H1 w d2 → Fp c.K H1 z d3 → tw D (((σ.set i (some v)).set j (some w)).set l (some z)) H1) :
    tSeq (tAsg te (gTup c.K 3 (gCons (gName i) (gCons (gName j) (gCons (gName l) gNil))))) tw D σ H := s_tup3 (D := { D with nx := tw D }) h k
theorem n_tup4 {i j l m : Nat} {d1 d2 d3 d4 : PyData} (h : EvK c te σ H (.d (.tuple [d1, d2, d3, d4]))) (k : ∀ v w z y H1, Ex H H1 → Fp c.K H1 v d1 → Fp c.K H1 w d2 → Fp c.K H1 z d3 → Fp c.K H1 y d4 → tw D ((((σ.set i (some v)).set j (some w)).set l (some z)).set m (some y)) H1) :
    tSeq (tAsg te (gTup c.K 4 (gCons (gName i) (gCons (gName j) (gCons (gName l) (gCons (gName m) gNil)))))) tw D σ H := s_tup4 (D := { D with nx := tw D }) h k
/-- l.append(e), l a list of the def's own -/
theorem s_app {l : Addr} {vs : List V} {ds : List PyData} {d : PyData} {i : Nat} (hl : H l = some (.lst vs)) (hd : FpAll c.K H vs ds) (hz : ds.length < 100000) (hi : σ[i]? = some (some (.ref l))) (h : EvK c te σ H (.d d))
    (k : ∀ v H1, Ex H H1 → FpAll c.K (upd H1 l (.lst (vs ++ [v]))) (vs ++ [v]) (ds ++ [d]) → D.nx σ (upd H1 l (.lst (vs ++ [v])))) :
    tDrop (tBM c.K "list" rAppend (tVar i) (tCons te tNil)) D σ H := by
  refine ⟨.ref l, hi, Or.inl ⟨rfl, vs, SqL.of hl⟩, ?_⟩
  refine h H (Ex.refl H) _ fun v H1 e r => ?_
  have hl1 := e l _ hl
  refine ⟨l, vs, v, rfl, rfl, hl1, ?_, ?_⟩
  · rw [hd.length]
    exact Nat.lt_trans hz (by decide)
  · refine k v H1 e ?_
    have tx : Tx H1 (upd H1 l (.lst (vs ++ [v]))) := Tx.upd hl1
    exact ((hd.mono (Tx.of e)).mono tx).append (.cons (Fp.mono tx r) .nil)
theorem n_app {l : Addr} {vs : List V} {ds : List PyData} {d : PyData} {i : Nat} (hl : H l = some (.lst vs)) (hd : FpAll c.K H vs ds) (hz : ds.length < 100000) (hi : σ[i]? = some (some (.ref l))) (h : EvK c te σ H (.d d))
    (k : ∀ v H1, Ex H H1 → FpAll c.K (upd H1 l (.lst (vs ++ [v]))) (vs ++ [v]) (ds ++ [d]) → tw D σ (upd H1 l (.lst (vs ++ [v])))) :
    tSeq (tDrop (tBM c.K "list" rAppend (tVar i) (tCons te tNil))) tw D σ H := s_app (D := { D with nx := tw D }) hl hd hz hi h k
end
end K66
set_option Elab.async false
set_option linter.all false
set_option autoImplicit false
set_option maxRecDepth 100000
set_option maxHeartbeats 4000000
/-! KTxt: the program's defs by places, their names. -/
namespace K66
open PySem PySem.Spec PyProof.Rows L2
def topS (i : Nat) : Stmt := PySem.Challenge.pw_allincomes_k66_whole_least_curves.main.body.getD i (.Pass ⟨0, 0, 0, 0⟩)
abbrev t_common_divisor : Stmt := topS 8
theorem sc_common_divisor : FnScope ["first", "second"] ["first", "second"] (defScope t_common_divisor) := ⟨rfl, rfl, rfl, by decide +kernel, rfl, by decide +kernel, by decide +kernel⟩
abbrev t_exact : Stmt := topS 9
theorem sc_exact : FnScope ["top", "bottom", "divisor"] ["top", "bottom"] (defScope t_exact) := ⟨rfl, rfl, rfl, by decide +kernel, rfl, by decide +kernel, by decide +kernel⟩
abbrev t_is_integer : Stmt := topS 10
theorem sc_is_integer : FnScope ["value"] ["value"] (defScope t_is_integer) := ⟨rfl, rfl, rfl, by decide +kernel, rfl, by decide +kernel, by decide +kernel⟩
abbrev t_is_number : Stmt := topS 11
theorem sc_is_number : FnScope ["value"] ["value"] (defScope t_is_number) := ⟨rfl, rfl, rfl, by decide +kernel, rfl, by decide +kernel, by decide +kernel⟩
abbrev t_plus : Stmt := topS 12
theorem sc_plus : FnScope ["first", "second"] ["first", "second"] (defScope t_plus) := ⟨rfl, rfl, rfl, by decide +kernel, rfl, by decide +kernel, by decide +kernel⟩
abbrev t_negative : Stmt := topS 13
theorem sc_negative : FnScope ["number"] ["number"] (defScope t_negative) := ⟨rfl, rfl, rfl, by decide +kernel, rfl, by decide +kernel, by decide +kernel⟩
abbrev t_minus : Stmt := topS 14
theorem sc_minus : FnScope ["first", "second"] ["first", "second"] (defScope t_minus) := ⟨rfl, rfl, rfl, by decide +kernel, rfl, by decide +kernel, by decide +kernel⟩
abbrev t_product : Stmt := topS 15
theorem sc_product : FnScope ["first", "second"] ["first", "second"] (defScope t_product) := ⟨rfl, rfl, rfl, by decide +kernel, rfl, by decide +kernel, by decide +kernel⟩
abbrev t_quotient : Stmt := topS 16
theorem sc_quotient : FnScope ["first", "second"] ["first", "second"] (defScope t_quotient) := ⟨rfl, rfl, rfl, by decide +kernel, rfl, by decide +kernel, by decide +kernel⟩
abbrev t_is_less : Stmt := topS 17
theorem sc_is_less : FnScope ["first", "second"] ["first", "second"] (defScope t_is_less) := ⟨rfl, rfl, rfl, by decide +kernel, rfl, by decide +kernel, by decide +kernel⟩
abbrev t_larger_of : Stmt := topS 18
theorem sc_larger_of : FnScope ["first", "second"] ["first", "second"] (defScope t_larger_of) := ⟨rfl, rfl, rfl, by decide +kernel, rfl, by decide +kernel, by decide +kernel⟩
abbrev t_below : Stmt := topS 21
theorem sc_below : FnScope ["number"] ["number"] (defScope t_below) := ⟨rfl, rfl, rfl, by decide +kernel, rfl, by decide +kernel, by decide +kernel⟩
abbrev t_above : Stmt := topS 22
theorem sc_above : FnScope ["number"] ["number"] (defScope t_above) := ⟨rfl, rfl, rfl, by decide +kernel, rfl, by decide +kernel, by decide +kernel⟩
abbrev t_comes_before : Stmt := topS 23
theorem sc_comes_before : FnScope ["first", "second"] ["first", "second"] (defScope t_comes_before) := ⟨rfl, rfl, rfl, by decide +kernel, rfl, by decide +kernel, by decide +kernel⟩
abbrev t_check_income : Stmt := topS 25
theorem sc_check_income : FnScope ["income"] ["income"] (defScope t_check_income) := ⟨rfl, rfl, rfl, by decide +kernel, rfl, by decide +kernel, by decide +kernel⟩
abbrev t_are_nodes : Stmt := topS 27
theorem sc_are_nodes : FnScope ["value", "last", "node", "number"] ["value"] (defScope t_are_nodes) := ⟨rfl, rfl, rfl, by decide +kernel, rfl, by decide +kernel, by decide +kernel⟩
abbrev t_reached_by : Stmt := topS 28
theorem sc_reached_by : FnScope ["node", "income"] ["node", "income"] (defScope t_reached_by) := ⟨rfl, rfl, rfl, by decide +kernel, rfl, by decide +kernel, by decide +kernel⟩
abbrev t_node_near : Stmt := topS 29
theorem sc_node_near : FnScope ["nodes", "income", "node", "start", "one"] ["nodes", "income"] (defScope t_node_near) := ⟨rfl, rfl, rfl, by decide +kernel, rfl, by decide +kernel, by decide +kernel⟩
abbrev t_minit : Stmt := inClass (topS 30) 0
theorem sc_minit : FnScope ["self", "nodes", "found", "node", "value"] ["self", "nodes"] (defScope t_minit) := ⟨rfl, rfl, rfl, by decide +kernel, rfl, by decide +kernel, by decide +kernel⟩
abbrev t_meq : Stmt := inClass (topS 30) 1
theorem sc_meq : FnScope ["self", "other"] ["self", "other"] (defScope t_meq) := ⟨rfl, rfl, rfl, by decide +kernel, rfl, by decide +kernel, by decide +kernel⟩
abbrev t_mcall : Stmt := inClass (topS 30) 2
theorem sc_mcall : FnScope ["self", "income"] ["self", "income"] (defScope t_mcall) := ⟨rfl, rfl, rfl, by decide +kernel, rfl, by decide +kernel, by decide +kernel⟩
abbrev t_madd : Stmt := inClass (topS 30) 3
theorem sc_madd : FnScope ["self", "other"] ["self", "other"] (defScope t_madd) := ⟨rfl, rfl, rfl, by decide +kernel, rfl, by decide +kernel, by decide +kernel⟩
abbrev t_msub : Stmt := inClass (topS 30) 4
theorem sc_msub : FnScope ["self", "other"] ["self", "other"] (defScope t_msub) := ⟨rfl, rfl, rfl, by decide +kernel, rfl, by decide +kernel, by decide +kernel⟩
abbrev t_mlarger : Stmt := inClass (topS 30) 7
theorem sc_mlarger : FnScope ["self", "other"] ["self", "other"] (defScope t_mlarger) := ⟨rfl, rfl, rfl, by decide +kernel, rfl, by decide +kernel, by decide +kernel⟩
abbrev t_scaled_curve : Stmt := topS 31
theorem sc_scaled_curve : FnScope ["curve", "number", "node", "one"] ["curve", "number"] (defScope t_scaled_curve) := ⟨rfl, rfl, rfl, by decide +kernel, rfl, by decide +kernel, by decide +kernel⟩
abbrev t_in_ascending_order : Stmt := topS 32
theorem sc_in_ascending_order : FnScope ["numbers", "found", "number", "place", "one"] ["numbers"] (defScope t_in_ascending_order) := ⟨rfl, rfl, rfl, by decide +kernel, rfl, by decide +kernel, by decide +kernel⟩
abbrev t_all_incomes : Stmt := topS 33
theorem sc_all_incomes : FnScope ["first", "second", "node"] ["first", "second"] (defScope t_all_incomes) := ⟨rfl, rfl, rfl, by decide +kernel, rfl, by decide +kernel, by decide +kernel⟩
abbrev t_node_sum : Stmt := topS 34
theorem sc_node_sum : FnScope ["first", "second", "income", "one", "other"] ["first", "second", "income"] (defScope t_node_sum) := ⟨rfl, rfl, rfl, by decide +kernel, rfl, by decide +kernel, by decide +kernel⟩
abbrev t_sum_of : Stmt := topS 35
theorem sc_sum_of : FnScope ["first", "second", "income"] ["first", "second"] (defScope t_sum_of) := ⟨rfl, rfl, rfl, by decide +kernel, rfl, by decide +kernel, by decide +kernel⟩
abbrev t_larger_curve : Stmt := topS 36
theorem sc_larger_curve : FnScope ["first", "second", "nodes", "incomes", "place", "income", "value", "start", "slope", "other", "begin", "rise", "cross", "there", "steeper"] ["first", "second"] (defScope t_larger_curve) := ⟨rfl, rfl, rfl, by decide +kernel, rfl, by decide +kernel, by decide +kernel⟩
abbrev t_larger_piece : Stmt := topS 37
theorem sc_larger_piece : FnScope ["first", "second"] ["first", "second"] (defScope t_larger_piece) := ⟨rfl, rfl, rfl, by decide +kernel, rfl, by decide +kernel, by decide +kernel⟩
abbrev t_crossing : Stmt := topS 38
theorem sc_crossing : FnScope ["income", "first", "second", "ahead", "faster", "way"] ["income", "first", "second"] (defScope t_crossing) := ⟨rfl, rfl, rfl, by decide +kernel, rfl, by decide +kernel, by decide +kernel⟩
abbrev t_inside_cuts : Stmt := topS 40
theorem sc_inside_cuts : FnScope ["curve", "place", "last"] ["curve", "place"] (defScope t_inside_cuts) := ⟨rfl, rfl, rfl, by decide +kernel, rfl, by decide +kernel, by decide +kernel⟩
abbrev t_highest_so_far : Stmt := topS 41
theorem sc_highest_so_far : FnScope ["curve", "nodes", "highest", "place", "node", "start", "is_rising", "follows", "cross"] ["curve"] (defScope t_highest_so_far) := ⟨rfl, rfl, rfl, by decide +kernel, rfl, by decide +kernel, by decide +kernel⟩
abbrev t_check_rates : Stmt := topS 43
theorem sc_check_rates : FnScope ["low", "high", "rate"] ["low", "high"] (defScope t_check_rates) := ⟨rfl, rfl, rfl, by decide +kernel, rfl, by decide +kernel, by decide +kernel⟩
abbrev t_line_curve : Stmt := topS 44
theorem sc_line_curve : FnScope ["slope"] ["slope"] (defScope t_line_curve) := ⟨rfl, rfl, rfl, by decide +kernel, rfl, by decide +kernel, by decide +kernel⟩
abbrev t_number_at : Stmt := topS 45
theorem sc_number_at : FnScope ["curve", "place", "income", "side", "value", "start", "slope", "node"] ["curve", "place"] (defScope t_number_at) := ⟨rfl, rfl, rfl, by decide +kernel, rfl, by decide +kernel, by decide +kernel⟩
abbrev t_are_steps_kept : Stmt := topS 46
theorem sc_are_steps_kept : FnScope ["curve", "low", "high", "place", "node", "numbers", "one", "other"] ["curve", "low", "high"] (defScope t_are_steps_kept) := ⟨rfl, rfl, rfl, by decide +kernel, rfl, by decide +kernel, by decide +kernel⟩
abbrev t_keeps_between : Stmt := topS 47
theorem sc_keeps_between : FnScope ["curve", "low", "high", "node"] ["curve", "low", "high"] (defScope t_keeps_between) := ⟨rfl, rfl, rfl, by decide +kernel, rfl, by decide +kernel, by decide +kernel⟩
abbrev t_falling_nodes : Stmt := topS 48
theorem sc_falling_nodes : FnScope ["node", "rest", "last", "income", "value", "start", "slope", "cross"] ["node", "rest", "last"] (defScope t_falling_nodes) := ⟨rfl, rfl, rfl, by decide +kernel, rfl, by decide +kernel, by decide +kernel⟩
abbrev t_highest_behind : Stmt := topS 49
theorem sc_highest_behind : FnScope ["curve", "found", "rest", "last", "node", "income", "value", "start", "slope", "some", "most"] ["curve"] (defScope t_highest_behind) := ⟨rfl, rfl, rfl, by decide +kernel, rfl, by decide +kernel, by decide +kernel⟩
abbrev t_least_between : Stmt := topS 50
theorem sc_least_between : FnScope ["curve", "low", "high", "found", "line"] ["curve", "low", "high"] (defScope t_least_between) := ⟨rfl, rfl, rfl, by decide +kernel, rfl, by decide +kernel, by decide +kernel⟩
abbrev t_places_near : Stmt := topS 51
theorem sc_places_near : FnScope ["curve", "income", "found", "one", "node"] ["curve", "income"] (defScope t_places_near) := ⟨rfl, rfl, rfl, by decide +kernel, rfl, by decide +kernel, by decide +kernel⟩
abbrev t_leads : Stmt := topS 52
theorem sc_leads : FnScope ["curve", "low", "high", "income", "place", "number", "there", "side", "here"] ["curve", "low", "high", "income", "place", "number"] (defScope t_leads) := ⟨rfl, rfl, rfl, by decide +kernel, rfl, by decide +kernel, by decide +kernel⟩
abbrev t_reached_from : Stmt := topS 53
theorem sc_reached_from : FnScope ["curve", "low", "high", "income", "found", "number", "place"] ["curve", "low", "high", "income"] (defScope t_reached_from) := ⟨rfl, rfl, rfl, by decide +kernel, rfl, by decide +kernel, by decide +kernel⟩
abbrev t_l_feed : Stmt := topS 55
theorem sc_l_feed : FnScope ["_law_script", "_law_k", "_law_seed", "_law_digits"] ["_law_script", "_law_k"] (defScope t_l_feed) := ⟨rfl, rfl, rfl, by decide +kernel, rfl, by decide +kernel, by decide +kernel⟩
abbrev t_l_take : Stmt := topS 56
theorem sc_l_take : FnScope ["_law_feed_here", "_law_size", "_law_digit"] ["_law_feed_here", "_law_size"] (defScope t_l_take) := ⟨rfl, rfl, rfl, by decide +kernel, rfl, by decide +kernel, by decide +kernel⟩
abbrev t_l_pick : Stmt := topS 57
theorem sc_l_pick : FnScope ["_law_feed_here", "_law_choices"] ["_law_feed_here", "_law_choices"] (defScope t_l_pick) := ⟨rfl, rfl, rfl, by decide +kernel, rfl, by decide +kernel, by decide +kernel⟩
abbrev t_l_divisor : Stmt := topS 58
theorem sc_l_divisor : FnScope ["_law_first", "_law_second"] ["_law_first", "_law_second"] (defScope t_l_divisor) := ⟨rfl, rfl, rfl, by decide +kernel, rfl, by decide +kernel, by decide +kernel⟩
abbrev t_l_number : Stmt := topS 59
theorem sc_l_number : FnScope ["_law_top", "_law_bottom", "_law_divisor_here"] ["_law_top", "_law_bottom"] (defScope t_l_number) := ⟨rfl, rfl, rfl, by decide +kernel, rfl, by decide +kernel, by decide +kernel⟩
abbrev t_l_plus : Stmt := topS 60
theorem sc_l_plus : FnScope ["_law_first", "_law_second"] ["_law_first", "_law_second"] (defScope t_l_plus) := ⟨rfl, rfl, rfl, by decide +kernel, rfl, by decide +kernel, by decide +kernel⟩
abbrev t_l_minus : Stmt := topS 61
theorem sc_l_minus : FnScope ["_law_first", "_law_second"] ["_law_first", "_law_second"] (defScope t_l_minus) := ⟨rfl, rfl, rfl, by decide +kernel, rfl, by decide +kernel, by decide +kernel⟩
abbrev t_l_by : Stmt := topS 62
theorem sc_l_by : FnScope ["_law_first", "_law_second"] ["_law_first", "_law_second"] (defScope t_l_by) := ⟨rfl, rfl, rfl, by decide +kernel, rfl, by decide +kernel, by decide +kernel⟩
abbrev t_l_less : Stmt := topS 63
theorem sc_l_less : FnScope ["_law_first", "_law_second"] ["_law_first", "_law_second"] (defScope t_l_less) := ⟨rfl, rfl, rfl, by decide +kernel, rfl, by decide +kernel, by decide +kernel⟩
abbrev t_l_some_number : Stmt := topS 64
theorem sc_l_some_number : FnScope ["_law_feed_here", "_law_top"] ["_law_feed_here"] (defScope t_l_some_number) := ⟨rfl, rfl, rfl, by decide +kernel, rfl, by decide +kernel, by decide +kernel⟩
abbrev t_l_line : Stmt := topS 65
theorem sc_l_line : FnScope ["_law_node", "_law_x"] ["_law_node", "_law_x"] (defScope t_l_line) := ⟨rfl, rfl, rfl, by decide +kernel, rfl, by decide +kernel, by decide +kernel⟩
abbrev t_l_needed : Stmt := topS 67
theorem sc_l_needed : FnScope ["_law_nodes", "_law_found", "_law_node", "_law_line_here"] ["_law_nodes"] (defScope t_l_needed) := ⟨rfl, rfl, rfl, by decide +kernel, rfl, by decide +kernel, by decide +kernel⟩
abbrev t_l_few : Stmt := topS 69
theorem sc_l_few : FnScope ["_law_feed_here", "_law_most_here", "_law_x", "_law_found", "_law_turn", "_law_value", "_law_start", "_law_some", "_law_slope"] ["_law_feed_here", "_law_most_here"] (defScope t_l_few) := ⟨rfl, rfl, rfl, by decide +kernel, rfl, by decide +kernel, by decide +kernel⟩
abbrev t_l_rates : Stmt := topS 72
theorem sc_l_rates : FnScope ["_law_feed_here", "_law_some", "_law_low", "_law_high"] ["_law_feed_here"] (defScope t_l_rates) := ⟨rfl, rfl, rfl, by decide +kernel, rfl, by decide +kernel, by decide +kernel⟩
abbrev t_l_fits_right : Stmt := topS 73
theorem sc_l_fits_right : FnScope ["_law_curve", "_law_low", "_law_high", "_law_found", "_law_one", "_law_other"] ["_law_curve", "_law_low", "_law_high", "_law_found"] (defScope t_l_fits_right) := ⟨rfl, rfl, rfl, by decide +kernel, rfl, by decide +kernel, by decide +kernel⟩
abbrev t_l_is_right : Stmt := topS 74
theorem sc_l_is_right : FnScope ["_law_feed_here", "_law_curve", "_law_other", "_law_low", "_law_high", "_law_found", "_law_income", "_law_plain", "_law_more"] ["_law_feed_here", "_law_curve", "_law_other"] (defScope t_l_is_right) := ⟨rfl, rfl, rfl, by decide +kernel, rfl, by decide +kernel, by decide +kernel⟩
abbrev t_law : Stmt := topS 75
theorem sc_law : FnScope ["_law_script", "_law_k", "_law_feed_here", "_law_curve", "_law_other", "_law_turn"] ["_law_script"] (defScope t_law) := ⟨rfl, rfl, rfl, by decide +kernel, rfl, by decide +kernel, by decide +kernel⟩
/-- the scope of the comprehension that is the first argument of what a def returns -/
def argScope (st : Stmt) : Scope := match defBody st with
  | [.Return (some (.Call _ (.ListComp _ _ sc _ :: _) _ _)) _] => sc
  | _ => { kind := .function, names := [], isGenerator := false, isCoroutine := false }
abbrev compScope1 : Scope := argScope t_scaled_curve
end K66
set_option Elab.async false
set_option linter.all false
set_option autoImplicit false
set_option maxRecDepth 100000
set_option maxHeartbeats 4000000
/-! KB: what the text's facts are (Txt), a def and its promise (Def), words for calls of built-ins. -/
namespace K66
open PySem PySem.Spec PyProof.Rows L2
open Evl (Ex EvT)
/-- what the words need of the module behind its top -/
structure Txt (c : Cv) (mg : Str → Option Value) (aZ aT : Addr) : Prop where
  cl : Cls c.K c.C
  nN : NoAttr c.K c.C "nodes"
  mgC : mg "Curve" = some (.ref c.C)
  makes : PySem.W.makesIn c.K c.C = true
  kpC : PySem.W.keepIn c.K (.ref c.C) = true
  sf : PySem.W.selfFirst c.K c.C = true
  ca : PySem.W.findIn c.K (.ref c.C) "__class__" = some (some (.builtin "object.__class__"))
  cn : PySem.W.specialIn c.K (.builtin "object.__class__") "__get__" = some (some (.builtin "getset_descriptor.__get__"))
  ct : PySem.W.takesIn c.K (.builtin "object.__class__") = some true
  cm : PySem.W.mroIn c.K c.C (.type "object") = some true
  ne : PySem.W.findIn c.K (.ref c.C) "__ne__" = some (some (.builtin "object.__ne__"))
  mgZERO : mg "ZERO" = some (.ref aZ)
  zero : ∀ H, Fp c.K H (.ref aZ) (numD 0)
  mgTOP : mg "TOP" = some (.ref aT)
  top : ∀ H, Fp c.K H (.ref aT) (.tuple [.int 1, numD 0, .int 0])
  abs : mg "abs" = none
  len : mg "len" = none
  isinstance : mg "isinstance" = none
  int : mg "int" = none
  bool : mg "bool" = none
  tuple : mg "tuple" = none
  list : mg "list" = none
  all : mg "all" = none
  enumerate : mg "enumerate" = none
  zip : mg "zip" = none
  range : mg "range" = none
  max : mg "max" = none
  min : mg "min" = none
/-- a def of the text, where it stands -/
def Src (K : Fg) (mg : Str → Option Value) (nm : Str) (st : Stmt) (ps : List Str) : Prop := ∃ f fd, Fun K nm nm st f fd ∧ mg nm = some (.ref f) ∧ Binds K fd ps []
/-- a def that keeps its promise -/
def Def (P : Program) (w : World) (K : Fg) (mg : Str → Option Value) (base : Heap) (nm : Str) (ps : List Str) (k : Nat) (sp : Sp) : Prop :=
  ∃ f fd, FnOk P w K mg base CX0 k f fd ps sp ∧ mg nm = some (.ref f) ∧ PySem.W.keepIn K (.ref f) = true ∧ Binds K fd ps []
theorem Src.ok {P : Program} {w : World} {K : Fg} {mg : Str → Option Value} {base : Heap} {nm : Str} {st : Stmt} {ps : List Str} {k : Nat} {sp : Sp} (S : Src K mg nm st ps)
    (h : ∀ f fd, Fun K nm nm st f fd → FnOk P w K mg base CX0 k f fd ps sp) : Def P w K mg base nm ps k sp := by
  obtain ⟨f, fd, F, hm, hb⟩ := S
  exact ⟨f, fd, h f fd F, hm, F.kp, hb⟩
section
variable {X : Cx} {nm : Str} {ps : List Str} {k : Nat} {sp : Sp} {e : Expr} {es : List Expr} {t : TA} {p pos : Pos}
theorem Def.pe (d : Def X.prog X.w X.K X.mg X.base nm ps k sp) (hr : Room k X.A) (hg : Gl X nm) (ha : PA X (e :: es) t) (hdb : (nm == ("__debug__" : Str)) = false := by decide)
    (he : starEach (e :: es) X.env = (false, eval e X.env) :: starEach es X.env := by rfl) (hpl : (backTo pos (starEach es X.env)).any (·.1) = false := by rfl) :
    PE X (.Call (.Name nm p) (e :: es) [] pos) (tCall sp [] E0 t) := by
  obtain ⟨f, fd, F, hm, hk, hb⟩ := d
  exact pe_call F hr hg hm hk hb .nil pass0 ha hdb he hpl
/-- // by any divisor that is not 0, below 2 ^ 9000 -/
def CDivX (_ j : Int) : Prop := j ≠ 0 ∧ j.natAbs.log2 < 9000
theorem op_fdivX : OpR X (binaryOp .FloorDiv) (rI CDivX fun i j => .int (i.fdiv j)) := opI fun _ _ _ _ _ _ _ hc q => floordiv_int hc.1 q (.inl (PyProof.noPylong_of_log2 hc.2))
theorem _root_.L2.Room.units65 {A : Around} (r : Room k A) : A.units + 65 < cLine := by have := r.un; omega
end
/-- a conditional expression as a test -/
def tIfT (t u v : TT) : TT := fun σ H Q => t σ H fun b H1 => if b = true then u σ H1 Q else v σ H1 Q
theorem pt_ifT {X : Cx} {e1 e2 e3 : Expr} {t u v : TT} {pos : Pos} (h1 : PT X e1 t) (h2 : PT X e2 u) (h3 : PT X e3 v) : PT X (.IfExp e1 e2 e3 pos) (tIfT t u v) := by
  refine ⟨fun pins s σ H Q I h => ?_⟩
  refine isTrue_IfExp (thn (h1.run pins s σ H _ I h) fun b s1 hb => ?_)
  obtain ⟨H1, I1, q⟩ := hb
  cases b with
  | true => exact h2.run pins s1 σ H1 Q I1 q
  | false => exact h3.run pins s1 σ H1 Q I1 q
theorem et_ifT {σ : L2.St} {H : Hp} {t u v : TT} {b a : Bool} (h : EvT t σ H b) (h1 : b = true → EvT u σ H a) (h2 : b = false → EvT v σ H a) : EvT (tIfT t u v) σ H a := fun H1 e Q q => h H1 e _ fun H2 e2 => by
  cases b with
  | true => exact h1 rfl H2 (e.trans e2) Q fun H3 e3 => q H3 (e2.trans e3)
  | false => exact h2 rfl H2 (e.trans e2) Q fun H3 e3 => q H3 (e2.trans e3)
/-! the rules that speak of the written part, with its name -/
section
variable {X : Cx}
theorem ixT (K : Fg) (h : X.K = K) : IxR X (rIxT K) := h ▸ ix_tup
theorem ixL (K : Fg) (h : X.K = K) : IxR X (rIxL K) := h ▸ ix_list
theorem oEqD (K : Fg) (h : X.K = K) (hu : X.A.units + 64 < cLine) : OpR X (compareOp .Eq) (rEqD K) := h ▸ op_eqD hu
theorem oNeD (K : Fg) (h : X.K = K) (hu : X.A.units + 64 < cLine) : OpR X (compareOp .NotEq) (rNeD K) := h ▸ op_neD hu
theorem oNotInD (K : Fg) (h : X.K = K) (hu : X.A.units + 65 < cLine) : OpR X (compareOp .NotIn) (rNotInD K) := h ▸ op_notInD hu
theorem slL (K : Fg) (h : X.K = K) : SlR X (rSlL K) := h ▸ sl_list
theorem slT (K : Fg) (h : X.K = K) : SlR X (rSlT K) := h ▸ sl_tup
theorem oCatT (K : Fg) (h : X.K = K) : OpR X (binaryOp .Add) (rCatT K) := h ▸ op_catT
abbrev rTupOf (K : Fg) : List V → Hp → VK → Prop := fun xs H Q => ∃ p ys, xs = [.ref p] ∧ ((SqL K H p ys ∧ ∀ l, H l = none → Q (.ref l) (upd H l (.tup ys))) ∨ (SqT K H p ys ∧ Q (.ref p) H))
abbrev rLstOf (K : Fg) : List V → Hp → VK → Prop := fun xs H Q => ∃ p ys, xs = [.ref p] ∧ (SqL K H p ys ∨ SqT K H p ys) ∧ ∀ l, H l = none → Q (.ref l) (upd H l (.lst ys))
abbrev rLenOf (K : Fg) : List V → Hp → VK → Prop := fun xs H Q => ∃ p ys, xs = [.ref p] ∧ (SqL K H p ys ∨ SqT K H p ys) ∧ Q (.int ys.length) H
theorem kTuple (K : Fg) (h : X.K = K) : CallR X (.type "tuple") (rTupOf K) := h ▸ call_tuple_of
theorem kList (K : Fg) (h : X.K = K) : CallR X (.type "list") (rLstOf K) := h ▸ call_list_of
theorem kLen (K : Fg) (h : X.K = K) : CallR X (.builtin "len") (rLenOf K) := h ▸ call_len_seq
theorem kAll (K : Fg) (h : X.K = K) (hc : X.calm = true) : CallR X (.builtin "all") (rAll K) := h ▸ cr_all hc
theorem kIsi (K : Fg) (h : X.K = K) : CallR X (.builtin "isinstance") (rIsi K) := h ▸ call_isi
theorem piT {tg l : Expr} {tl : TE} (K : Fg) (h : X.K = K) (hl : PE X l tl) : PI X tg l (iTup K tl) := h ▸ pi_tup hl
theorem piL {tg l : Expr} {tl : TE} (K : Fg) (h : X.K = K) (hl : PE X l tl) : PI X tg l (iList K tl) := h ▸ pi_list hl
theorem peF {e : Expr} {ta : TE} {nm : Str} {pos : Pos} (K : Fg) (h : X.K = K) (he : PE X e ta) (hb : attributeBase e nm X.env (eval e X.env) = eval e X.env) : PE X (.Attribute e nm pos) (tFld K ta nm) := h ▸ pe_fld he hb
end
theorem log2_lt {j : Int} {n : Nat} (h0 : 0 < n) (h : j.natAbs < 2 ^ n) : j.natAbs.log2 < n := PySem.Flt.log2_lt_of h0 h
theorem cmulW {i j : Int} {a b : Nat} (ha : i.natAbs < 2 ^ a) (hb : j.natAbs < 2 ^ b) (h0 : 0 < a) (h1 : 0 < b) (h : a + b ≤ 1000000) : CMulW i j := wide_mul ha hb h0 h1 h
section
variable {c : Cv} {σ : L2.St} {H : Hp} {ta tb te : TE} {kd : KD}
theorem ev_abs {i : Int} (ha : EvK c ta σ H (.d (.int i))) : EvK c (tCB (fun xs H Q => ∃ i, xs = [.int i] ∧ Q (.int (if i < 0 then -i else i)) H) (tCons ta tNil)) σ H (.d (.int (i.natAbs : Int))) :=
  ev_cb (ea_cons ha ea_nil) fun H1 _ vs r Q q => by
    obtain ⟨v, rfl, hv⟩ := KpAll.one r
    refine ⟨i, by rw [Fp.intE hv], q _ H1 (Ex.refl H1) ?_⟩
    have e : (if i < 0 then -i else i) = (i.natAbs : Int) := by split <;> omega
    rw [e]
    exact .int _
theorem ev_lenT {ds : List PyData} {n : Int} (ha : EvK c ta σ H (.d (.tuple ds))) (hn : (ds.length : Int) = n := by rfl) : EvK c (tCB (rLenOf c.K) (tCons ta tNil)) σ H (.d (.int n)) :=
  ev_cb (ea_cons ha ea_nil) fun H1 _ vs r Q q => by
    obtain ⟨v, rfl, hv⟩ := KpAll.one r
    obtain ⟨a, xs, rfl, hs, hx⟩ := Fp.tupE hv
    refine ⟨a, xs, rfl, .inr hs, q _ H1 (Ex.refl H1) ?_⟩
    rw [hx.length, hn]
    exact .int _
theorem ev_lenL {ds : List PyData} (ha : EvK c ta σ H (.l ds)) : EvK c (tCB (rLenOf c.K) (tCons ta tNil)) σ H (.d (.int (ds.length : Int))) :=
  ev_cb (ea_cons ha ea_nil) fun H1 _ vs r Q q => by
    obtain ⟨v, rfl, hv⟩ := KpAll.one r
    obtain ⟨a, xs, rfl, hs, hx⟩ := (show LstR c H1 v ds from hv)
    refine ⟨a, xs, rfl, .inl (SqL.of hs), q _ H1 (Ex.refl H1) ?_⟩
    rw [hx.length]
    exact .int _
/-- isinstance(x, T), T a built-in class -/
inductive TyK : KD → String → Prop
  | int (i : Int) : TyK (.d (.int i)) "int"
  | tup (ds : List PyData) : TyK (.d (.tuple ds)) "tuple"
  | lst (ds : List PyData) : TyK (.l ds) "list"
theorem TyK.x {v : V} {T : String} (h : TyK kd T) (r : Kp c H v kd) : TyX c.K H v (.type T) := by
  cases h with
  | int i =>
    rw [Fp.intE r]
    exact .base (.int i)
  | tup ds =>
    obtain ⟨a, xs, rfl, hs, hx⟩ := Fp.tupE r
    rcases hs with (h | ⟨o, h⟩) | ⟨o, its, n, h1, h2, h3, _⟩
    · exact .base (.tup h)
    · exact .fTuple h
    · exact .kTuple h1 h2
  | lst ds =>
    obtain ⟨a, xs, rfl, hs, hx⟩ := (show LstR c H v ds from r)
    exact .base (.lst hs)
theorem ev_isi {T U : String} {b : Bool} (ha : EvK c ta σ H kd) (hT : TyK kd T) (hb : PySem.W.kitOne c.K (.type T) (.type U) = some b) :
    EvK c (tCB (rIsi c.K) (tCons ta (tCons (tC (.ty U)) tNil))) σ H (.d (.bool b)) := fun H1 e Q q =>
  ha H1 e _ fun v H2 e2 r => ⟨v, .ty U, .type T, .type U, b, rfl, .ty U, hT.x r, hb, q _ H2 e2 (.bl b)⟩
end
theorem s_whileN {σ : L2.St} {H : Hp} {t : TT} {tu tw : TS} {D : Ends} (W : Nat → L2.St → Hp → Prop) (m0 : Nat) (h0 : W m0 σ H)
    (hs : ∀ m σ' H', W m σ' H' → ∃ b, EvT t σ' H' b ∧ (b = true → ∀ H1, Ex H' H1 → ∃ N : L2.St → Hp → Prop, (∀ σ2 H2, N σ2 H2 → ∃ m', m' < m ∧ W m' σ2 H2) ∧ tu { D with nx := N, ct := N, bk := tw D } σ' H1) ∧ (b = false → ∀ H1, Ex H' H1 → tw D σ' H1)) : tSeq (tWhile t tu) tw D σ H :=
  Evl.s_while (D := { D with nx := tw D }) W m0 h0 hs
/-! automation: the expression's own rules, as its form says -/
local macro_rules | `(tactic| walk_at "k66ev") => `(tactic| (repeat' (first
  | exact ev_int | exact ev_str | exact ev_bl | exact ev_non
  | exact ev_var rfl (by assumption)
  | apply ev_ixT | apply ev_ixL
  | apply ev_I (g := fun i j => i * j) | apply ev_I0 (g := fun i j => i + j) | apply ev_I0 (g := fun i j => i - j)
  | apply ev_B0 (g := fun i j => decide (i < j)) | apply ev_B0 (g := fun i j => decide (j < i))
  | apply ev_neg | refine ev_tup ?_ | exact ed_nil | apply ed_cons | exact ea_nil | apply ea_cons | apply ev_call
  | exact atI_nat (j := 0) rfl | exact atI_nat (j := 1) rfl | exact atI_nat (j := 2) rfl | exact atI_nat (j := 3) rfl)))
end K66
set_option Elab.async false
set_option linter.all false
set_option autoImplicit false
set_option maxRecDepth 100000
set_option maxHeartbeats 4000000
/-! KC: comprehensions and loops over data. -/
namespace K66
open PySem PySem.Spec PyProof.Rows L2
open Evl (Ex EvT)
theorem atI_back {α : Type} {l : List α} {d : α} (h : l.getLast? = some d) : L2.atI l (-1) = some d := by
  have hne : l ≠ [] := by
    intro z
    rw [z] at h
    cases h
  have e : l.getLast hne = d := by
    rw [List.getLast?_eq_some_getLast hne] at h
    exact Option.some.inj h
  rw [← List.dropLast_concat_getLast hne, e]
  exact atI_last _ _
theorem set_back (σ : L2.St) (i : Nat) (v : Option V) : ((σ.set i none).set i v) = σ.set i v := by
  rw [List.set_set]
section
variable {α : Type} {c : Cv} {σ : L2.St} {H : Hp} {tl te : TE} {tt : TT} {i : Nat} {D : Ends} {tu : TS} {g : TG}
/-- what one turn of a comprehension does -/
theorem lc_turn {em : α → PyData} {ns : List α} {p : α → Bool} {f : α → PyData} {H1 Hc : Hp} {Dl : Addr} {j : Nat} {a : α} {v : V} {acc : List V} (hz : ns.length ≤ 1000) (ha : ns[j]? = some a) (e1 : Ex H H1) (hD : H1 Dl = none) (ex : Ex H1 Hc) (hl : Hc Dl = some (.lst acc))
    (hacc : FpAll c.K Hc acc (((ns.take j).filter p).map f)) (hv : Fp c.K Hc v (em a))
    (ht : ∀ v H2, Ex H H2 → Fp c.K H2 v (em a) → EvT tt (σ.set i (some v)) H2 (p a))
    (he : p a = true → ∀ v H2, Ex H H2 → Fp c.K H2 v (em a) → EvK c te (σ.set i (some v)) H2 (.d (f a))) :
    tt (σ.set i (some v)) Hc fun b H3 => if b = true then te (σ.set i (some v)) H3 fun y H4 => ∃ acc, H4 Dl = some (.lst acc) ∧ acc.length < sizeLine ∧ (fun H' : Hp => Ex H1 H' ∧ ∃ acc, H' Dl = some (.lst acc) ∧ FpAll c.K H' acc (((ns.take (j + 1)).filter p).map f)) (upd H4 Dl (.lst (acc ++ [y])))
      else (fun H' : Hp => Ex H1 H' ∧ ∃ acc, H' Dl = some (.lst acc) ∧ FpAll c.K H' acc (((ns.take (j + 1)).filter p).map f)) H3 := by
  have tk : ns.take (j + 1) = ns.take j ++ [a] := by rw [List.take_add_one, ha]; rfl
  refine ht v Hc (e1.trans ex) hv Hc (Ex.refl Hc) _ fun H3 e3 => ?_
  have hv3 := hv.mono (Tx.of e3)
  cases hp : p a with
  | true =>
    show te _ H3 _
    refine he hp v H3 ((e1.trans ex).trans e3) hv3 H3 (Ex.refl H3) _ fun y H4 e4 ry => ?_
    have h4 : H4 Dl = some (.lst acc) := e4 _ _ (e3 _ _ hl)
    refine ⟨acc, h4, ?_, Ex.mut ((ex.trans e3).trans e4) hD, acc ++ [y], upd_same, ?_⟩
    · have q := hacc.length
      have q2 : (((ns.take j).filter p).map f).length ≤ ns.length := by
        rw [List.length_map]
        refine Nat.le_trans (List.length_filter_le _ _) ?_
        rw [List.length_take]
        exact Nat.min_le_right _ _
      exact small1000 (by omega)
    · rw [tk, List.filter_append, List.map_append]
      have tx : Tx H4 (upd H4 Dl (.lst (acc ++ [y]))) := Tx.upd h4
      refine FpAll.append ((hacc.mono (Tx.of (e3.trans e4))).mono tx) ?_
      rw [List.filter_cons_of_pos hp]
      exact .cons (Fp.mono tx ry) .nil
  | false =>
    show Ex H1 H3 ∧ _
    refine ⟨ex.trans e3, acc, e3 _ _ hl, ?_⟩
    rw [tk, List.filter_append, List.filter_cons_of_neg (by rw [hp]; exact Bool.false_ne_true), List.filter_nil, List.append_nil]
    exact hacc.mono (Tx.of e3)
theorem Ex.drop {H H1 : Hp} (e : Ex H H1) {a : Addr} (h : H1 a = none) : H a = none := Evl.fresh_back e h
/-- [f x for x in t if p x], t a tuple of data -/
theorem ef_lcT (em : α → PyData) (ns : List α) (p : α → Bool) (f : α → PyData) (hz : ns.length ≤ 1000) (h : EvK c tl σ H (.d (.tuple (ns.map em))))
    (ht : ∀ a ∈ ns, ∀ v H1, Ex H H1 → Fp c.K H1 v (em a) → EvT tt (σ.set i (some v)) H1 (p a))
    (he : ∀ a ∈ ns, p a = true → ∀ v H1, Ex H H1 → Fp c.K H1 v (em a) → EvK c te (σ.set i (some v)) H1 (.d (f a))) : EvF c (tLc (iTup c.K tl) (gName i) tt te [i]) σ H ((ns.filter p).map f) := fun H0 e0 Q q =>
  h H0 e0 _ fun x H1 e1 r => by
    obtain ⟨a, xs, rfl, hs, hx⟩ := Fp.tupE r
    refine ⟨a, rfl, ⟨xs, hs⟩, fun Dl hD => ?_⟩
    refine lc_tup (K := c.K) (a := a) (xs := xs) (fun j H' => Ex H1 H' ∧ ∃ acc, H' Dl = some (.lst acc) ∧ FpAll c.K H' acc (((ns.take j).filter p).map f)) ⟨Ex.new hD, [], upd_same, .nil⟩ (fun j H' _ P => Evl.ex_t P.1 hs) ?_ ?_
    · rintro j x H' hj ⟨ex, acc, hl, hacc⟩
      obtain ⟨d, hd, rd⟩ := hx.of_at hj
      rw [List.getElem?_map] at hd
      cases ha : ns[j]? with
      | none =>
        rw [ha] at hd
        cases hd
      | some z =>
        rw [ha] at hd
        obtain rfl : em z = d := Option.some.inj hd
        show wipe ((wipe σ [i]).set i (some x)) [i] = wipe σ [i] ∧ tt ((wipe σ [i]).set i (some x)) H' _
        rw [show (wipe σ [i]).set i (some x) = σ.set i (some x) from set_back σ i (some x)]
        refine ⟨?_, ?_⟩
        · show (σ.set i (some x)).set i none = σ.set i none
          rw [List.set_set]
        · have hm : z ∈ ns := List.mem_of_getElem? ha
          exact lc_turn hz ha (e0.trans e1) hD ex hl hacc (rd.mono (Tx.of ex)) (ht z hm) (he z hm)
    · rintro H' ⟨ex, acc, hl, hacc⟩
      have hn : xs.length = ns.length := by rw [hx.length, List.length_map]
      rw [hn, List.take_length] at hacc
      exact q Dl acc H' (Ex.drop e1 hD) (e1.trans ex) hl hacc
/-- .. over a list of data -/
theorem ef_lcL (em : α → PyData) (ns : List α) (p : α → Bool) (f : α → PyData) (hz : ns.length ≤ 1000) (h : EvK c tl σ H (.l (ns.map em)))
    (ht : ∀ a ∈ ns, ∀ v H1, Ex H H1 → Fp c.K H1 v (em a) → EvT tt (σ.set i (some v)) H1 (p a))
    (he : ∀ a ∈ ns, p a = true → ∀ v H1, Ex H H1 → Fp c.K H1 v (em a) → EvK c te (σ.set i (some v)) H1 (.d (f a))) : EvF c (tLc (iList c.K tl) (gName i) tt te [i]) σ H ((ns.filter p).map f) := fun H0 e0 Q q =>
  h H0 e0 _ fun x H1 e1 r => by
    obtain ⟨a, xs, rfl, hs, hx⟩ := (show LstR c H1 x (ns.map em) from r)
    refine ⟨a, rfl, ⟨xs, SqL.of hs⟩, fun Dl hD => ?_⟩
    refine lc_list (K := c.K) (a := a) (xs := xs) (fun j H' => Ex H1 H' ∧ ∃ acc, H' Dl = some (.lst acc) ∧ FpAll c.K H' acc (((ns.take j).filter p).map f)) ⟨Ex.new hD, [], upd_same, .nil⟩ (fun j H' _ P => Evl.ex_l P.1 (SqL.of hs)) ?_ ?_
    · rintro j x H' hj ⟨ex, acc, hl, hacc⟩
      obtain ⟨d, hd, rd⟩ := hx.of_at hj
      rw [List.getElem?_map] at hd
      cases ha : ns[j]? with
      | none =>
        rw [ha] at hd
        cases hd
      | some z =>
        rw [ha] at hd
        obtain rfl : em z = d := Option.some.inj hd
        show wipe ((wipe σ [i]).set i (some x)) [i] = wipe σ [i] ∧ tt ((wipe σ [i]).set i (some x)) H' _
        rw [show (wipe σ [i]).set i (some x) = σ.set i (some x) from set_back σ i (some x)]
        refine ⟨?_, ?_⟩
        · show (σ.set i (some x)).set i none = σ.set i none
          rw [List.set_set]
        · have hm : z ∈ ns := List.mem_of_getElem? ha
          exact lc_turn hz ha (e0.trans e1) hD ex hl hacc (rd.mono (Tx.of ex)) (ht z hm) (he z hm)
    · rintro H' ⟨ex, acc, hl, hacc⟩
      have hn : xs.length = ns.length := by rw [hx.length, List.length_map]
      rw [hn, List.take_length] at hacc
      exact q Dl acc H' (Ex.drop e1 hD) (e1.trans ex) hl hacc
theorem et_yes {σ : L2.St} {H : Hp} : EvT tYes σ H true := fun H1 _ Q q => q H1 (Ex.refl H1)
theorem ef_mapT (em : α → PyData) (ns : List α) (f : α → PyData) (hz : ns.length ≤ 1000) (h : EvK c tl σ H (.d (.tuple (ns.map em))))
    (he : ∀ a ∈ ns, ∀ v H1, Ex H H1 → Fp c.K H1 v (em a) → EvK c te (σ.set i (some v)) H1 (.d (f a))) : EvF c (tLc (iTup c.K tl) (gName i) tYes te [i]) σ H (ns.map f) := by
  have q := ef_lcT (i := i) (te := te) (tt := tYes) em ns (fun _ => true) f hz h (fun _ _ _ _ _ _ => et_yes) fun a ha _ => he a ha
  rwa [List.filter_eq_self.mpr fun _ _ => rfl] at q
theorem ef_mapL (em : α → PyData) (ns : List α) (f : α → PyData) (hz : ns.length ≤ 1000) (h : EvK c tl σ H (.l (ns.map em)))
    (he : ∀ a ∈ ns, ∀ v H1, Ex H H1 → Fp c.K H1 v (em a) → EvK c te (σ.set i (some v)) H1 (.d (f a))) : EvF c (tLc (iList c.K tl) (gName i) tYes te [i]) σ H (ns.map f) := by
  have q := ef_lcL (i := i) (te := te) (tt := tYes) em ns (fun _ => true) f hz h (fun _ _ _ _ _ _ => et_yes) fun a ha _ => he a ha
  rwa [List.filter_eq_self.mpr fun _ _ => rfl] at q
/-- for x in t, t a tuple of data -/
theorem s_forT (em : α → PyData) (ns : List α) (h : EvK c tl σ H (.d (.tuple (ns.map em))))
    (k : ∀ H1, Ex H H1 → ∃ Pv : Nat → L2.St → Hp → Prop, Pv 0 σ H1 ∧ (∀ j σ' H', Pv j σ' H' → Tx H1 H') ∧
      (∀ j a v σ' H', ns[j]? = some a → Pv j σ' H' → Fp c.K H' v (em a) → g v σ' H' fun σ2 H2 => tu { D with nx := Pv (j + 1), ct := Pv (j + 1), bk := D.nx } σ2 H2) ∧
      ∀ σ' H', Pv ns.length σ' H' → D.nx σ' H') : tFor (iTup c.K tl) g tu D σ H := h H (Ex.refl H) _ fun x H1 e1 r => by
  obtain ⟨a, xs, rfl, hs, hx⟩ := Fp.tupE r
  obtain ⟨Pv, h0, hl, hs', hd⟩ := k H1 e1
  have hn : xs.length = ns.length := by rw [hx.length, List.length_map]
  refine ⟨a, rfl, ⟨xs, hs⟩, for_tup (K := c.K) (a := a) (xs := xs) Pv h0 (fun j σ' H' _ P => tx_seq (hl j σ' H' P) hs) ?_ (by rw [hn]; exact hd)⟩
  intro j v σ' H' hj P
  obtain ⟨d, hd', rd⟩ := hx.of_at hj
  rw [List.getElem?_map] at hd'
  cases ha : ns[j]? with
  | none =>
    rw [ha] at hd'
    cases hd'
  | some z =>
    rw [ha] at hd'
    obtain rfl : em z = d := Option.some.inj hd'
    exact hs' j z v σ' H' ha P (rd.mono (hl j σ' H' P))
/-- for x in l, l a list of data that the loop leaves as it is -/
theorem s_forL (em : α → PyData) (ns : List α) (h : EvK c tl σ H (.l (ns.map em)))
    (k : ∀ a vs H1, Ex H H1 → H1 a = some (.lst vs) → ∃ Pv : Nat → L2.St → Hp → Prop, Pv 0 σ H1 ∧ (∀ j σ' H', Pv j σ' H' → Tx H1 H' ∧ H' a = some (.lst vs)) ∧
      (∀ j a v σ' H', ns[j]? = some a → Pv j σ' H' → Fp c.K H' v (em a) → g v σ' H' fun σ2 H2 => tu { D with nx := Pv (j + 1), ct := Pv (j + 1), bk := D.nx } σ2 H2) ∧
      ∀ σ' H', Pv ns.length σ' H' → D.nx σ' H') : tFor (iList c.K tl) g tu D σ H := h H (Ex.refl H) _ fun x H1 e1 r => by
  obtain ⟨a, xs, rfl, hs, hx⟩ := (show LstR c H1 x (ns.map em) from r)
  obtain ⟨Pv, h0, hl, hs', hd⟩ := k a xs H1 e1 hs
  have hn : xs.length = ns.length := by rw [hx.length, List.length_map]
  refine ⟨a, rfl, ⟨xs, SqL.of hs⟩, for_list (K := c.K) (a := a) (xs := xs) Pv h0 (fun j σ' H' _ P => SqL.of (hl j σ' H' P).2) ?_ (by rw [hn]; exact hd)⟩
  intro j v σ' H' hj P
  obtain ⟨d, hd', rd⟩ := hx.of_at hj
  rw [List.getElem?_map] at hd'
  cases ha : ns[j]? with
  | none =>
    rw [ha] at hd'
    cases hd'
  | some z =>
    rw [ha] at hd'
    obtain rfl : em z = d := Option.some.inj hd'
    exact hs' j z v σ' H' ha P (rd.mono (hl j σ' H' P).1)
/-- .. a list that was made for it -/
theorem s_forF (em : α → PyData) (ns : List α) (h : EvF c tl σ H (ns.map em))
    (k : ∀ a vs H1, Ex H H1 → H a = none → H1 a = some (.lst vs) → ∃ Pv : Nat → L2.St → Hp → Prop, Pv 0 σ H1 ∧ (∀ j σ' H', Pv j σ' H' → Tx H1 H' ∧ H' a = some (.lst vs)) ∧
      (∀ j a v σ' H', ns[j]? = some a → Pv j σ' H' → Fp c.K H' v (em a) → g v σ' H' fun σ2 H2 => tu { D with nx := Pv (j + 1), ct := Pv (j + 1), bk := D.nx } σ2 H2) ∧
      ∀ σ' H', Pv ns.length σ' H' → D.nx σ' H') : tFor (iList c.K tl) g tu D σ H := h H (Ex.refl H) _ fun a xs H1 hn0 e1 hs hx => by
  obtain ⟨Pv, h0, hl, hs', hd⟩ := k a xs H1 e1 hn0 hs
  have hn : xs.length = ns.length := by rw [hx.length, List.length_map]
  refine ⟨a, rfl, ⟨xs, SqL.of hs⟩, for_list (K := c.K) (a := a) (xs := xs) Pv h0 (fun j σ' H' _ P => SqL.of (hl j σ' H' P).2) ?_ (by rw [hn]; exact hd)⟩
  intro j v σ' H' hj P
  obtain ⟨d, hd', rd⟩ := hx.of_at hj
  rw [List.getElem?_map] at hd'
  cases ha : ns[j]? with
  | none =>
    rw [ha] at hd'
    cases hd'
  | some z =>
    rw [ha] at hd'
    obtain rfl : em z = d := Option.some.inj hd'
    exact hs' j z v σ' H' ha P (rd.mono (hl j σ' H' P).1)
variable {tw : TS}
theorem n_forT (em : α → PyData) (ns : List α) (h : EvK c tl σ H (.d (.tuple (ns.map em))))
    (k : ∀ H1, Ex H H1 → ∃ Pv : Nat → L2.St → Hp → Prop, Pv 0 σ H1 ∧ (∀ j σ' H', Pv j σ' H' → Tx H1 H') ∧
      (∀ j a v σ' H', ns[j]? = some a → Pv j σ' H' → Fp c.K H' v (em a) → g v σ' H' fun σ2 H2 => tu { D with nx := Pv (j + 1), ct := Pv (j + 1), bk := tw D } σ2 H2) ∧
      ∀ σ' H', Pv ns.length σ' H' → tw D σ' H') : tSeq (tFor (iTup c.K tl) g tu) tw D σ H := s_forT (D := { D with nx := tw D }) em ns h k
theorem n_forL (em : α → PyData) (ns : List α) (h : EvK c tl σ H (.l (ns.map em)))
    (k : ∀ a vs H1, Ex H H1 → H1 a = some (.lst vs) → ∃ Pv : Nat → L2.St → Hp → Prop, Pv 0 σ H1 ∧ (∀ j σ' H', Pv j σ' H' → Tx H1 H' ∧ H' a = some (.lst vs)) ∧
      (∀ j a v σ' H', ns[j]? = some a → Pv j σ' H' → Fp c.K H' v (em a) → g v σ' H' fun σ2 H2 => tu { D with nx := Pv (j + 1), ct := Pv (j + 1), bk := tw D } σ2 H2) ∧
      ∀ σ' H', Pv ns.length σ' H' → tw D σ' H') : tSeq (tFor (iList c.K tl) g tu) tw D σ H := s_forL (D := { D with nx := tw D }) em ns h k
theorem n_forF (em : α → PyData) (ns : List α) (h : EvF c tl σ H (ns.map em))
    (k : ∀ a vs H1, Ex H H1 → H a = none → H1 a = some (.lst vs) → ∃ Pv : Nat → L2.St → Hp → Prop, Pv 0 σ H1 ∧ (∀ j σ' H', Pv j σ' H' → Tx H1 H' ∧ H' a = some (.lst vs)) ∧
      (∀ j a v σ' H', ns[j]? = some a → Pv j σ' H' → Fp c.K H' v (em a) → g v σ' H' fun σ2 H2 => tu { D with nx := Pv (j + 1), ct := Pv (j + 1), bk := tw D } σ2 H2) ∧
      ∀ σ' H', Pv ns.length σ' H' → tw D σ' H') : tSeq (tFor (iList c.K tl) g tu) tw D σ H := s_forF (D := { D with nx := tw D }) em ns h k
/-- attribute nodes of a curve -/
theorem ev_nodes {mg : Str → Option Value} {aZ aT : Addr} {ta : TE} {ns : List Nd} (T : Txt c mg aZ aT) (h : EvK c ta σ H (.c ns)) : EvK c (tFld c.K ta "nodes") σ H (.d (.tuple (ns.map nodeD))) := fun H1 e Q q =>
  h H1 e _ fun v H2 e2 r => by
    obtain ⟨p, dx, t, rfl, h1, h2⟩ := (show CrvR c H2 v ns from r)
    exact ⟨p, c.C, dx, _, .ref t, rfl, h1, T.cl, T.nN, rfl, q _ H2 e2 h2⟩
end
/-! shapes of data -/
theorem shaped_num (q : Rat) : SeqAt.shaped (numD q) = true := rfl
theorem eqv_num (p q : Rat) : PyData.eqv (numD p) (numD q) = decide (p = q) := by
  simp only [PyData.eqv, PyData.eqvAll, Bool.and_true]
  by_cases h : p = q
  · subst h
    simp
  · rw [decide_eq_false h]
    rw [Bool.and_eq_false_iff]
    by_cases h1 : p.num = q.num
    · right
      have : p.den ≠ q.den := fun h2 => h (Rat.ext h1 h2)
      simp
      omega
    · left
      simpa using h1
end K66
set_option Elab.async false
set_option linter.all false
set_option autoImplicit false
set_option maxRecDepth 100000
set_option maxHeartbeats 4000000
/-! K1: the numbers' defs. -/
namespace K66
open PySem PySem.Spec PyProof.Rows L2
open Evl (Ex EvT)
local macro_rules | `(tactic| walk_at "k66ev") => `(tactic| (repeat' (first
  | exact ev_int | exact ev_str | exact ev_bl | exact ev_non
  | exact ev_var rfl (by assumption)
  | apply ev_ixT | apply ev_ixL
  | apply ev_I (g := fun i j => i * j) | apply ev_I0 (g := fun i j => i + j) | apply ev_I0 (g := fun i j => i - j)
  | apply ev_B0 (g := fun i j => decide (i < j)) | apply ev_B0 (g := fun i j => decide (j < i))
  | apply ev_neg | refine ev_tup ?_ | exact ed_nil | apply ed_cons | exact ea_nil | apply ea_cons | apply ev_call
  | exact atI_nat (j := 0) rfl | exact atI_nat (j := 1) rfl | exact atI_nat (j := 2) rfl | exact atI_nat (j := 3) rfl)))
section
variable {P : Program} {w : World} {c : Cv} {mg : Str → Option Value} {base : Heap} {aZ aT : Addr}
/-- a number that is small enough for all that is reckoned with it -/
abbrev Sm (q : Rat) : Prop := Ht 4000 q
theorem Sm.n {q : Rat} (h : Sm q) : q.num.natAbs < 2 ^ 4000 := h.num
theorem Sm.d {q : Rat} (h : Sm q) : ((q.den : Int)).natAbs < 2 ^ 4000 := h.den
theorem cm {i j : Int} (ha : i.natAbs < 2 ^ 4000) (hb : j.natAbs < 2 ^ 4000) : CMulW i j := cmulW ha hb (by decide) (by decide) (by decide)
theorem ml {i j : Int} (ha : i.natAbs < 2 ^ 4000) (hb : j.natAbs < 2 ^ 4000) : (i * j).natAbs < 2 ^ 8000 := wide_lt ha hb
def R_common_divisor (ks : List KD) (kd : KD) : Prop := ∃ a b : Int, ks = [.d (.int a), .d (.int b)] ∧ kd = .d (.int (Int.gcd a b : Int))
theorem c_common_divisor (T : Txt c mg aZ aT) (S : Src c.K mg "common_divisor" t_common_divisor ["first", "second"]) : Def P w c.K mg base "common_divisor" ["first", "second"] 1 (spF c R_common_divisor) := S.ok fun f fd F => by
  refine F.ok sc_common_divisor (fun vs H Q E h => ?_) (fun cdv A outer s H vs Q E hr h => ?_)
  · obtain ⟨_, _, hk, ⟨a, b, rfl, _⟩, _⟩ := h
    exact hk.length
  · obtain ⟨_, _, hk, ⟨a, b, rfl, rfl⟩, k⟩ := h
    obtain ⟨v0, v1, rfl, r0, r1⟩ := KpAll.two hk
    refine ⟨_, (pss_cons (ps_par (i := 0) (j := 1) (by rfl) sc_common_divisor.nd rfl rfl (by decide) rfl rfl (pa_cons (pe_callB call_abs (by rfl) T.abs (by decide +kernel) (pa_cons (pv 0) pa_nil)) (pa_cons (pe_callB call_abs (by rfl) T.abs (by decide +kernel) (pa_cons (pv 1) pa_nil)) pa_nil)) (by rfl))
      (pss_cons (ps_while PassesOwn.never (pt_cmpR op_gt (pv 1) pe_int (nomark _)) (pss_one (ps_par (i := 0) (j := 1) (by rfl) sc_common_divisor.nd rfl rfl (by decide) rfl rfl (pa_cons (pv 1) (pa_cons (pe_op op_mod (pv 0) (pv 1)) pa_nil)) (by rfl))))
      (pss_one (ps_ret (pv 0))))), ?_⟩
    refine n_par (ea_cons (ev_abs (ev_var rfl r0)) (ea_cons (ev_abs (ev_var rfl r1)) ea_nil)) fun u0 u1 H1 e1 q0 q1 => ?_
    refine s_whileN (fun m σ' H' => ∃ x y : Nat, σ' = [some (.int (x : Int)), some (.int (y : Int))] ∧ Ex H H' ∧ Nat.gcd x y = Int.gcd a b ∧ y = m) b.natAbs ⟨a.natAbs, b.natAbs, ?_, e1, rfl, rfl⟩ ?_
    · rw [Fp.intE q0, Fp.intE q1]
      rfl
    · rintro m σ' H' ⟨x, y, rfl, ex, hg, rfl⟩
      refine ⟨decide ((0 : Int) < (y : Int)), et_test (c := c) (ev_B0 (g := fun i j => decide (j < i)) (ev_var rfl (Fp.int _)) ev_int), fun hb H2 e2 => ?_, fun hb H2 e2 => ?_⟩
      · have hy : 0 < y := by have := of_decide_eq_true hb; omega
        refine ⟨fun σ2 H3 => ∃ x' y' : Nat, σ2 = [some (.int (x' : Int)), some (.int (y' : Int))] ∧ Ex H H3 ∧ Nat.gcd x' y' = Int.gcd a b ∧ y' < y, fun σ2 H3 ⟨x', y', h1, h2, h3, h4⟩ => ⟨y', h4, x', y', h1, h2, h3, rfl⟩, ?_⟩
        refine s_par (c := c) (k1 := .d (.int (y : Int))) (k2 := .d (.int ((x % y : Nat) : Int))) (ea_cons (ev_var rfl (Fp.int _)) (ea_cons (ev_is (ev_I (g := fun i j => i % j) (ev_var rfl (Fp.int _)) (ev_var rfl (Fp.int _)) ?_) ?_) ea_nil)) fun u0 u1 H3 e3 q0 q1 => ?_
        · exact (by omega : (0 : Int) < (y : Int))
        · rfl
        · rw [Fp.intE q0, Fp.intE q1]
          refine ⟨y, x % y, rfl, (ex.trans e2).trans e3, ?_, Nat.mod_lt _ hy⟩
          rw [← hg, Nat.gcd_comm y, ← Nat.gcd_rec, Nat.gcd_comm]
      · have hy : y = 0 := by have := of_decide_eq_false hb; omega
        subst hy
        refine s_ret (c := c) (kd := .d (.int (x : Int))) (ev_var rfl (Fp.int _)) fun v H3 e3 r => k v H3 ((ex.trans e2).trans e3) ?_
        rw [Nat.gcd_zero_right] at hg
        rw [← hg]
        exact r
def R_exact (ks : List KD) (kd : KD) : Prop := ∃ t b : Int, ks = [.d (.int t), .d (.int b)] ∧ b ≠ 0 ∧ b.natAbs < 2 ^ 8000 ∧ kd = .d (numD (Rat.divInt t b))
theorem c_exact (T : Txt c mg aZ aT) (S : Src c.K mg "exact" t_exact ["top", "bottom"]) (c_common_divisor : Def P w c.K mg base "common_divisor" ["first", "second"] 1 (spF c R_common_divisor)) :
    Def P w c.K mg base "exact" ["top", "bottom"] 2 (spF c R_exact) := S.ok fun f fd F => by
  refine F.ok sc_exact (fun vs H Q E h => ?_) (fun cdv A outer s H vs Q E hr h => ?_)
  · obtain ⟨_, _, hk, ⟨a, b, rfl, _⟩, _⟩ := h
    exact hk.length
  · obtain ⟨_, _, hk, ⟨t, b, rfl, hb, hz, rfl⟩, k⟩ := h
    obtain ⟨v0, v1, rfl, r0, r1⟩ := KpAll.two hk
    refine ⟨_, (pss_cons (ps_set (i := 2) sc_exact.nd rfl (Or.inl rfl) (pe_ifExp (pt_cmpR op_gt (pv 1) pe_int (nomark _)) (c_common_divisor.pe (hr.mono (by decide)) (by rfl) (pa_cons (pv 0) (pa_cons (pv 1) pa_nil))) (pe_un un_neg (c_common_divisor.pe (hr.mono (by decide)) (by rfl) (pa_cons (pv 0) (pa_cons (pv 1) pa_nil))))))
      (pss_one (ps_ret (pe_tup (pa_cons (pe_op op_fdivX (pv 0) (pv 2)) (pa_cons (pe_op op_fdivX (pv 1) (pv 2)) pa_nil)))))), ?_⟩
    refine n_asg (kd := .d (.int (dv t b))) (ev_if (et_test (ev_B0 (g := fun i j => decide (j < i)) (ev_var rfl r1) ev_int)) (fun hc => ev_is (ev_call (ea_cons (ev_var rfl r0) (ea_cons (ev_var rfl r1) ea_nil)) ⟨t, b, rfl, rfl⟩) ?_)
      fun hc => ev_is (ev_neg (ev_call (ea_cons (ev_var rfl r0) (ea_cons (ev_var rfl r1) ea_nil)) ⟨t, b, rfl, rfl⟩)) ?_) fun v2 H1 e1 r2 => ?_
    · unfold dv
      rw [if_pos (of_decide_eq_true hc)]
    · unfold dv
      rw [if_neg (of_decide_eq_false hc)]
    · have r0 := r0.mono e1
      have r1 := r1.mono e1
      have hd : CDivX t (dv t b) ∧ CDivX b (dv t b) := by
        have h1 := dv_ne (t := t) hb
        have h2 := log2_lt (n := 8000) (by decide) (Nat.lt_of_le_of_lt (dv_le (t := t) hb) hz)
        exact ⟨⟨h1, by omega⟩, ⟨h1, by omega⟩⟩
      refine s_ret (kd := .d (numD (Rat.divInt t b))) (ev_tup (ed_cons (ev_is (ev_I (g := Int.fdiv) (ev_var rfl r0) (ev_var rfl r2) hd.1) ?_) (ed_cons (ev_is (ev_I (g := Int.fdiv) (ev_var rfl r1) (ev_var rfl r2) hd.2) ?_) ed_nil))) fun v H2 e2 r => k v H2 (e1.trans e2) r
      · rw [dv_num hb]
      · rw [dv_den hb]
def R_plus (ks : List KD) (kd : KD) : Prop := ∃ p q : Rat, ks = [.d (numD p), .d (numD q)] ∧ Sm p ∧ Sm q ∧ kd = .d (numD (p + q))
theorem c_plus (T : Txt c mg aZ aT) (S : Src c.K mg "plus" t_plus ["first", "second"]) (c_exact : Def P w c.K mg base "exact" ["top", "bottom"] 2 (spF c R_exact)) :
    Def P w c.K mg base "plus" ["first", "second"] 3 (spF c R_plus) := S.ok fun f fd F => by
  refine F.ok sc_plus (fun vs H Q E h => ?_) (fun cdv A outer s H vs Q E hr h => ?_)
  · obtain ⟨_, _, hk, ⟨a, b, rfl, _⟩, _⟩ := h
    exact hk.length
  · obtain ⟨_, _, hk, ⟨p, q, rfl, hp, hq, rfl⟩, k⟩ := h
    obtain ⟨v0, v1, rfl, r0, r1⟩ := KpAll.two hk
    refine ⟨_, (pss_one (ps_ret (c_exact.pe (hr.mono (by decide)) (by rfl) (pa_cons (pe_op op_add (pe_op op_mulW (pe_ix (ixT c.K rfl) (pv 0) pe_int (fun _ _ => rfl)) (pe_ix (ixT c.K rfl) (pv 1) pe_int (fun _ _ => rfl))) (pe_op op_mulW (pe_ix (ixT c.K rfl) (pv 1) pe_int (fun _ _ => rfl)) (pe_ix (ixT c.K rfl) (pv 0) pe_int (fun _ _ => rfl)))) (pa_cons (pe_op op_mulW (pe_ix (ixT c.K rfl) (pv 0) pe_int (fun _ _ => rfl)) (pe_ix (ixT c.K rfl) (pv 1) pe_int (fun _ _ => rfl))) pa_nil))))), ?_⟩
    refine s_ret (ev_call (R := R_exact) ?_ ⟨_, _, rfl, Int.mul_ne_zero (den_ne p) (den_ne q), ml hp.d hq.d, by rw [← add_divInt]⟩) k
    walk_at "k66ev"
    · exact cm hp.n hq.d
    · exact cm hq.n hp.d
    · exact cm hp.d hq.d
def R_negative (ks : List KD) (kd : KD) : Prop := ∃ p : Rat, ks = [.d (numD p)] ∧ kd = .d (numD (-p))
theorem c_negative (T : Txt c mg aZ aT) (S : Src c.K mg "negative" t_negative ["number"])  :
    Def P w c.K mg base "negative" ["number"] 1 (spF c R_negative) := S.ok fun f fd F => by
  refine F.ok sc_negative (fun vs H Q E h => ?_) (fun cdv A outer s H vs Q E hr h => ?_)
  · obtain ⟨_, _, hk, ⟨p, rfl, _⟩, _⟩ := h
    exact hk.length
  · obtain ⟨_, _, hk, ⟨p, rfl, rfl⟩, k⟩ := h
    obtain ⟨v0, rfl, r0⟩ := KpAll.one hk
    refine ⟨_, (pss_one (ps_ret (pe_tup (pa_cons (pe_un un_neg (pe_ix (ixT c.K rfl) (pv 0) pe_int (fun _ _ => rfl))) (pa_cons (pe_ix (ixT c.K rfl) (pv 0) pe_int (fun _ _ => rfl)) pa_nil))))), ?_⟩
    refine s_ret (kd := .d (numD (-p))) ?_ k
    walk_at "k66ev"

def R_minus (ks : List KD) (kd : KD) : Prop := ∃ p q : Rat, ks = [.d (numD p), .d (numD q)] ∧ Sm p ∧ Sm q ∧ kd = .d (numD (p - q))
theorem c_minus (T : Txt c mg aZ aT) (S : Src c.K mg "minus" t_minus ["first", "second"]) (c_plus : Def P w c.K mg base "plus" ["first", "second"] 3 (spF c R_plus)) (c_negative : Def P w c.K mg base "negative" ["number"] 1 (spF c R_negative)) :
    Def P w c.K mg base "minus" ["first", "second"] 4 (spF c R_minus) := S.ok fun f fd F => by
  refine F.ok sc_minus (fun vs H Q E h => ?_) (fun cdv A outer s H vs Q E hr h => ?_)
  · obtain ⟨_, _, hk, ⟨a, b, rfl, _⟩, _⟩ := h
    exact hk.length
  · obtain ⟨_, _, hk, ⟨p, q, rfl, hp, hq, rfl⟩, k⟩ := h
    obtain ⟨v0, v1, rfl, r0, r1⟩ := KpAll.two hk
    refine ⟨_, (pss_one (ps_ret (c_plus.pe (hr.mono (by decide)) (by rfl) (pa_cons (pv 0) (pa_cons (c_negative.pe (hr.mono (by decide)) (by rfl) (pa_cons (pv 1) pa_nil)) pa_nil))))), ?_⟩
    refine s_ret (ev_call (R := R_plus) ?_ ⟨_, _, rfl, hp, hq.neg, by rw [← Rat.sub_eq_add_neg]⟩) k
    walk_at "k66ev"
    exact ⟨_, rfl, rfl⟩

def R_product (ks : List KD) (kd : KD) : Prop := ∃ p q : Rat, ks = [.d (numD p), .d (numD q)] ∧ Sm p ∧ Sm q ∧ kd = .d (numD (p * q))
theorem c_product (T : Txt c mg aZ aT) (S : Src c.K mg "product" t_product ["first", "second"]) (c_exact : Def P w c.K mg base "exact" ["top", "bottom"] 2 (spF c R_exact)) :
    Def P w c.K mg base "product" ["first", "second"] 3 (spF c R_product) := S.ok fun f fd F => by
  refine F.ok sc_product (fun vs H Q E h => ?_) (fun cdv A outer s H vs Q E hr h => ?_)
  · obtain ⟨_, _, hk, ⟨a, b, rfl, _⟩, _⟩ := h
    exact hk.length
  · obtain ⟨_, _, hk, ⟨p, q, rfl, hp, hq, rfl⟩, k⟩ := h
    obtain ⟨v0, v1, rfl, r0, r1⟩ := KpAll.two hk
    refine ⟨_, (pss_one (ps_ret (c_exact.pe (hr.mono (by decide)) (by rfl) (pa_cons (pe_op op_mulW (pe_ix (ixT c.K rfl) (pv 0) pe_int (fun _ _ => rfl)) (pe_ix (ixT c.K rfl) (pv 1) pe_int (fun _ _ => rfl))) (pa_cons (pe_op op_mulW (pe_ix (ixT c.K rfl) (pv 0) pe_int (fun _ _ => rfl)) (pe_ix (ixT c.K rfl) (pv 1) pe_int (fun _ _ => rfl))) pa_nil))))), ?_⟩
    refine s_ret (ev_call (R := R_exact) ?_ ⟨_, _, rfl, Int.mul_ne_zero (den_ne p) (den_ne q), ml hp.d hq.d, by rw [← mul_divInt]⟩) k
    walk_at "k66ev"
    · exact cm hp.n hq.n
    · exact cm hp.d hq.d

def R_quotient (ks : List KD) (kd : KD) : Prop := ∃ p q : Rat, ks = [.d (numD p), .d (numD q)] ∧ Sm p ∧ Sm q ∧ q ≠ 0 ∧ kd = .d (numD (p / q))
theorem c_quotient (T : Txt c mg aZ aT) (S : Src c.K mg "quotient" t_quotient ["first", "second"]) (c_exact : Def P w c.K mg base "exact" ["top", "bottom"] 2 (spF c R_exact)) :
    Def P w c.K mg base "quotient" ["first", "second"] 3 (spF c R_quotient) := S.ok fun f fd F => by
  refine F.ok sc_quotient (fun vs H Q E h => ?_) (fun cdv A outer s H vs Q E hr h => ?_)
  · obtain ⟨_, _, hk, ⟨a, b, rfl, _⟩, _⟩ := h
    exact hk.length
  · obtain ⟨_, _, hk, ⟨p, q, rfl, hp, hq, hn, rfl⟩, k⟩ := h
    obtain ⟨v0, v1, rfl, r0, r1⟩ := KpAll.two hk
    refine ⟨_, (pss_one (ps_ret (c_exact.pe (hr.mono (by decide)) (by rfl) (pa_cons (pe_op op_mulW (pe_ix (ixT c.K rfl) (pv 0) pe_int (fun _ _ => rfl)) (pe_ix (ixT c.K rfl) (pv 1) pe_int (fun _ _ => rfl))) (pa_cons (pe_op op_mulW (pe_ix (ixT c.K rfl) (pv 0) pe_int (fun _ _ => rfl)) (pe_ix (ixT c.K rfl) (pv 1) pe_int (fun _ _ => rfl))) pa_nil))))), ?_⟩
    refine s_ret (ev_call (R := R_exact) ?_ ⟨_, _, rfl, Int.mul_ne_zero (den_ne p) (num_ne hn), ml hp.d hq.n, by rw [← div_divInt]⟩) k
    walk_at "k66ev"
    · exact cm hp.n hq.d
    · exact cm hp.d hq.n

def R_is_less (ks : List KD) (kd : KD) : Prop := ∃ p q : Rat, ks = [.d (numD p), .d (numD q)] ∧ Sm p ∧ Sm q ∧ kd = .d (.bool (decide (p < q)))
theorem c_is_less (T : Txt c mg aZ aT) (S : Src c.K mg "is_less" t_is_less ["first", "second"])  :
    Def P w c.K mg base "is_less" ["first", "second"] 1 (spF c R_is_less) := S.ok fun f fd F => by
  refine F.ok sc_is_less (fun vs H Q E h => ?_) (fun cdv A outer s H vs Q E hr h => ?_)
  · obtain ⟨_, _, hk, ⟨a, b, rfl, _⟩, _⟩ := h
    exact hk.length
  · obtain ⟨_, _, hk, ⟨p, q, rfl, hp, hq, rfl⟩, k⟩ := h
    obtain ⟨v0, v1, rfl, r0, r1⟩ := KpAll.two hk
    refine ⟨_, (pss_one (ps_ret (pe_cmpR op_lt (pe_op op_mulW (pe_ix (ixT c.K rfl) (pv 0) pe_int (fun _ _ => rfl)) (pe_ix (ixT c.K rfl) (pv 1) pe_int (fun _ _ => rfl))) (pe_op op_mulW (pe_ix (ixT c.K rfl) (pv 1) pe_int (fun _ _ => rfl)) (pe_ix (ixT c.K rfl) (pv 0) pe_int (fun _ _ => rfl))) (nomark _)))), ?_⟩
    refine s_ret (kd := .d (.bool (decide (p < q)))) (ev_is (kd := .d (.bool (decide (p.num * q.den < q.num * p.den)))) ?_ (by rw [lt_num])) k
    walk_at "k66ev"
    · exact cm hp.n hq.d
    · exact cm hq.n hp.d

def R_larger_of (ks : List KD) (kd : KD) : Prop := ∃ p q : Rat, ks = [.d (numD p), .d (numD q)] ∧ Sm p ∧ Sm q ∧ kd = .d (numD (lar p q))
theorem c_larger_of (T : Txt c mg aZ aT) (S : Src c.K mg "larger_of" t_larger_of ["first", "second"]) (c_is_less : Def P w c.K mg base "is_less" ["first", "second"] 1 (spF c R_is_less)) :
    Def P w c.K mg base "larger_of" ["first", "second"] 2 (spF c R_larger_of) := S.ok fun f fd F => by
  refine F.ok sc_larger_of (fun vs H Q E h => ?_) (fun cdv A outer s H vs Q E hr h => ?_)
  · obtain ⟨_, _, hk, ⟨a, b, rfl, _⟩, _⟩ := h
    exact hk.length
  · obtain ⟨_, _, hk, ⟨p, q, rfl, hp, hq, rfl⟩, k⟩ := h
    obtain ⟨v0, v1, rfl, r0, r1⟩ := KpAll.two hk
    refine ⟨_, (pss_one (ps_ret (pe_ifExp (pt_val (c_is_less.pe (hr.mono (by decide)) (by rfl) (pa_cons (pv 0) (pa_cons (pv 1) pa_nil)))) (pv 1) (pv 0)))), ?_⟩
    refine s_ret (ev_if (b := decide (p < q)) (et_val (ev_call (ea_cons (ev_var rfl r0) (ea_cons (ev_var rfl r1) ea_nil)) ⟨_, _, rfl, hp, hq, rfl⟩)) (fun hc => ev_is (ev_var rfl r1) ?_) (fun hc => ev_is (ev_var rfl r0) ?_)) k
    · unfold lar
      rw [if_pos (of_decide_eq_true hc)]
    · unfold lar
      rw [if_neg (of_decide_eq_false hc)]

def R_is_integer (ks : List KD) (kd : KD) : Prop := ∃ i : Int, ks = [.d (.int i)] ∧ kd = .d (.bool true)
theorem c_is_integer (T : Txt c mg aZ aT) (S : Src c.K mg "is_integer" t_is_integer ["value"])  :
    Def P w c.K mg base "is_integer" ["value"] 1 (spF c R_is_integer) := S.ok fun f fd F => by
  refine F.ok sc_is_integer (fun vs H Q E h => ?_) (fun cdv A outer s H vs Q E hr h => ?_)
  · obtain ⟨_, _, hk, ⟨a, rfl, _⟩, _⟩ := h
    exact hk.length
  · obtain ⟨_, _, hk, ⟨i, rfl, rfl⟩, k⟩ := h
    obtain ⟨v0, rfl, r0⟩ := KpAll.one hk
    refine ⟨_, (pss_one (ps_ret (pe_and (pe_callB (kIsi c.K rfl) (by rfl) T.isinstance (by decide +kernel) (pa_cons (pv 0) (pa_cons (pe_bltn (v := .ty "int") (u := .type "int") (by rfl) T.int (by decide +kernel) rfl) pa_nil))) (pe_one (pe_not (pe_callB (kIsi c.K rfl) (by rfl) T.isinstance (by decide +kernel) (pa_cons (pv 0) (pa_cons (pe_bltn (v := .ty "bool") (u := .type "bool") (by rfl) T.bool (by decide +kernel) rfl) pa_nil)))))))), ?_⟩
    refine s_ret (ev_andV (a := true) (b := true) (ev_isi (ev_var rfl r0) (.int i) (kit_ty (by decide +kernel))) fun _ => ev_notV (a := false) (ev_isi (ev_var rfl r0) (.int i) (kit_ty (by decide +kernel)))) k

def R_is_number (ks : List KD) (kd : KD) : Prop := ∃ p : Rat, ks = [.d (numD p)] ∧ kd = .d (.bool true)
theorem c_is_number (T : Txt c mg aZ aT) (S : Src c.K mg "is_number" t_is_number ["value"]) (c_is_integer : Def P w c.K mg base "is_integer" ["value"] 1 (spF c R_is_integer)) (c_common_divisor : Def P w c.K mg base "common_divisor" ["first", "second"] 1 (spF c R_common_divisor)) :
    Def P w c.K mg base "is_number" ["value"] 2 (spF c R_is_number) := S.ok fun f fd F => by
  refine F.ok sc_is_number (fun vs H Q E h => ?_) (fun cdv A outer s H vs Q E hr h => ?_)
  · obtain ⟨_, _, hk, ⟨a, rfl, _⟩, _⟩ := h
    exact hk.length
  · obtain ⟨_, _, hk, ⟨p, rfl, rfl⟩, k⟩ := h
    obtain ⟨v0, rfl, r0⟩ := KpAll.one hk
    refine ⟨_, (pss_cons (ps_if (PW.pt (pw_or (pt_not (pt_val (pe_callB (kIsi c.K rfl) (by rfl) T.isinstance (by decide +kernel) (pa_cons (pv 0) (pa_cons (pe_bltn (v := .ty "tuple") (u := .type "tuple") (by rfl) T.tuple (by decide +kernel) rfl) pa_nil))))) (pw_or (pt_cmpR (oNeD c.K rfl hr.units) (pe_callB (kLen c.K rfl) (by rfl) T.len (by decide +kernel) (pa_cons (pv 0) pa_nil)) pe_int (nomark _)) (pw_or (pt_not (pt_val (c_is_integer.pe (hr.mono (by decide)) (by rfl) (pa_cons (pe_ix (ixT c.K rfl) (pv 0) pe_int (fun _ _ => rfl)) pa_nil)))) (pw_or1 (pt_not (pt_val (c_is_integer.pe (hr.mono (by decide)) (by rfl) (pa_cons (pe_ix (ixT c.K rfl) (pv 0) pe_int (fun _ _ => rfl)) pa_nil))))))))) (pss_one (ps_ret pe_bl)) pss_nil)
      (pss_one (ps_ret (pe_and (pe_cmpR op_gt (pe_ix (ixT c.K rfl) (pv 0) pe_int (fun _ _ => rfl)) pe_int (nomark _)) (pe_one (pe_cmpR (oEqD c.K rfl hr.units) (c_common_divisor.pe (hr.mono (by decide)) (by rfl) (pa_cons (pe_ix (ixT c.K rfl) (pv 0) pe_int (fun _ _ => rfl)) (pa_cons (pe_ix (ixT c.K rfl) (pv 0) pe_int (fun _ _ => rfl)) pa_nil))) pe_int (nomark _))))))), ?_⟩
    refine n_ifF (et_or (a := false) (b := false) (et_not (a := true) (et_val (ev_isi (ev_var rfl r0) (.tup _) (kit_ty (by decide +kernel))))) fun _ => et_or (a := false) (b := false) (et_test (ev_neD (ev_lenT (ev_var rfl r0)) ev_int (.d _) (.d _) rfl rfl)) fun _ => et_or (a := false) (b := false) (et_not (a := true) (et_val (ev_call (ea_cons (ev_ixT (ev_var rfl r0) ev_int (atI_nat (j := 0) rfl)) ea_nil) ⟨_, rfl, rfl⟩))) fun _ => et_not (a := true) (et_val (ev_call (ea_cons (ev_ixT (ev_var rfl r0) ev_int (atI_nat (j := 1) rfl)) ea_nil) ⟨_, rfl, rfl⟩))) fun H1 e1 => ?_
    have r0 := r0.mono e1
    refine s_ret (ev_andV (a := true) (b := true) (ev_is (ev_B0 (g := fun i j => decide (j < i)) (ev_ixT (ev_var rfl r0) ev_int (atI_nat (j := 1) rfl)) ev_int) ?_) fun _ => ev_is (ev_eqD (ev_call (ea_cons (ev_ixT (ev_var rfl r0) ev_int (atI_nat (j := 0) rfl)) (ea_cons (ev_ixT (ev_var rfl r0) ev_int (atI_nat (j := 1) rfl)) ea_nil)) ⟨_, _, rfl, rfl⟩) ev_int (.d _) (.d _) rfl rfl) ?_) fun v H2 e2 r => k v H2 (e1.trans e2) r
    · rw [decide_eq_true (show (0 : Int) < (p.den : Int) by have := p.den_pos; omega)]
    · have e : Int.gcd p.num (p.den : Int) = 1 := p.reduced
      rw [e]
      rfl

end
end K66
set_option Elab.async false
set_option linter.all false
set_option autoImplicit false
set_option maxRecDepth 100000
set_option maxHeartbeats 4000000
/-! K2: cuts, incomes, lines, the node near an income, whether a list is one of nodes. -/
namespace K66
open PySem PySem.Spec PyProof.Rows L2
open Evl (Ex EvT)
/-! shapes of longer data -/
theorem canLay_all : ∀ {ds : List PyData}, (∀ d ∈ ds, d.canLay0 = true) → PyData.canLayAll0 ds = true
  | [], _ => rfl
  | d :: ds, h => by
    simp only [PyData.canLayAll0, h d List.mem_cons_self, canLay_all fun e he => h e (List.mem_cons_of_mem _ he), Bool.and_self]
theorem depth_all {k : Nat} : ∀ {ds : List PyData}, (∀ d ∈ ds, d.depth ≤ k) → PyData.depthAll ds ≤ k
  | [], _ => by simp [PyData.depthAll]
  | d :: ds, h => by
    simp only [PyData.depthAll]
    exact Nat.max_le.mpr ⟨h d List.mem_cons_self, depth_all fun e he => h e (List.mem_cons_of_mem _ he)⟩
theorem node_lay (n : Nd) : (nodeD n).canLay0 = true := rfl
theorem node_depth (n : Nd) : (nodeD n).depth ≤ 2 := Nat.le_of_ble_eq_true rfl
theorem num_depth (q : Rat) : (numD q).depth ≤ 2 := Nat.le_of_ble_eq_true rfl
theorem shaped_of {ds : List PyData} (h : ∀ d ∈ ds, d.canLay0 = true ∧ d.depth ≤ 2) : SeqAt.shaped (.list ds) = true ∧ SeqAt.shaped (.tuple ds) = true := by
  have h1 := canLay_all fun d hd => (h d hd).1
  have h2 : PyData.depthAll ds ≤ 2 := depth_all fun d hd => (h d hd).2
  unfold SeqAt.shaped
  simp only [PyData.canLay0, PyData.depth, h1, Bool.true_and]
  exact ⟨decide_eq_true (by omega), decide_eq_true (by omega)⟩
theorem shaped_nodes (f : List Nd) : SeqAt.shaped (.list (f.map nodeD)) = true ∧ SeqAt.shaped (.tuple (f.map nodeD)) = true := shaped_of fun d hd => by
  obtain ⟨n, _, rfl⟩ := List.mem_map.mp hd
  exact ⟨node_lay n, node_depth n⟩
theorem shaped_nums (f : List Rat) : SeqAt.shaped (.list (f.map fun q => numD q)) = true := (shaped_of fun d hd => by
  obtain ⟨n, _, rfl⟩ := List.mem_map.mp hd
  exact ⟨rfl, num_depth n⟩).1
theorem eqv_tup2 (a b : Rat) (ds es : List PyData) : PyData.eqvAll (numD a :: ds) (numD b :: es) = (decide (a = b) && PyData.eqvAll ds es) := by
  rw [PyData.eqvAll, eqv_num]
theorem eqv_node (n m : Nd) : PyData.eqv (nodeD n) (nodeD m) = decide (n = m) := by
  show PyData.eqvAll [numD n.x, numD n.v, numD n.s, numD n.k] [numD m.x, numD m.v, numD m.s, numD m.k] = _
  rw [eqv_tup2, eqv_tup2, eqv_tup2, eqv_tup2]
  cases n
  cases m
  simp only [PyData.eqvAll, Bool.and_true, Nd.mk.injEq, Bool.decide_and]
theorem eqv_nodes : ∀ f g : List Nd, PyData.eqvAll (f.map nodeD) (g.map nodeD) = decide (f = g)
  | [], [] => rfl
  | [], _ :: _ => rfl
  | _ :: _, [] => rfl
  | n :: f, m :: g => by
    rw [List.map_cons, List.map_cons, PyData.eqvAll, eqv_node, eqv_nodes f g]
    simp only [List.cons.injEq, Bool.decide_and]
/-- what is asked for a value on a line -/
structure SmL (n : Nd) (y : Rat) : Prop where
  hx : Sm n.x
  hy : Sm y
  hk : Sm n.k
  hs : Sm n.s
  hd : Sm (y - n.x)
  hp : Sm (n.k * (y - n.x))
section
variable {P : Program} {w : World} {c : Cv} {mg : Str → Option Value} {base : Heap} {aZ aT : Addr}
def R_below (ks : List KD) (kd : KD) : Prop := ∃ p : Rat, ks = [.d (numD p)] ∧ kd = .d (.tuple [.int 0, numD p, .int 0])
theorem c_below (T : Txt c mg aZ aT) (S : Src c.K mg "below" t_below ["number"])  :
    Def P w c.K mg base "below" ["number"] 1 (spF c R_below) := S.ok fun f fd F => by
  refine F.ok sc_below (fun vs H Q E h => ?_) (fun cdv A outer s H vs Q E hr h => ?_)
  · obtain ⟨_, _, hk, ⟨p, rfl, _⟩, _⟩ := h
    exact hk.length
  · obtain ⟨_, _, hk, ⟨p, rfl, rfl⟩, k⟩ := h
    obtain ⟨v0, rfl, r0⟩ := KpAll.one hk
    refine ⟨_, (pss_one (ps_ret (pe_tup (pa_cons pe_int (pa_cons (pv 0) (pa_cons pe_int pa_nil)))))), ?_⟩
    exact s_ret (ev_tup (ed_cons ev_int (ed_cons (ev_var rfl r0) (ed_cons ev_int ed_nil)))) k
def R_above (ks : List KD) (kd : KD) : Prop := ∃ p : Rat, ks = [.d (numD p)] ∧ kd = .d (.tuple [.int 0, numD p, .int 1])
theorem c_above (T : Txt c mg aZ aT) (S : Src c.K mg "above" t_above ["number"])  :
    Def P w c.K mg base "above" ["number"] 1 (spF c R_above) := S.ok fun f fd F => by
  refine F.ok sc_above (fun vs H Q E h => ?_) (fun cdv A outer s H vs Q E hr h => ?_)
  · obtain ⟨_, _, hk, ⟨p, rfl, _⟩, _⟩ := h
    exact hk.length
  · obtain ⟨_, _, hk, ⟨p, rfl, rfl⟩, k⟩ := h
    obtain ⟨v0, rfl, r0⟩ := KpAll.one hk
    refine ⟨_, (pss_one (ps_ret (pe_tup (pa_cons pe_int (pa_cons (pv 0) (pa_cons pe_int pa_nil)))))), ?_⟩
    exact s_ret (ev_tup (ed_cons ev_int (ed_cons (ev_var rfl r0) (ed_cons ev_int ed_nil)))) k
/-- a cut just below a number, before one just below another one, or the topmost -/
def R_comes_before (ks : List KD) (kd : KD) : Prop := ∃ p : Rat, Sm p ∧ ((∃ q : Rat, Sm q ∧ ks = [.d (.tuple [.int 0, numD p, .int 0]), .d (.tuple [.int 0, numD q, .int 0])] ∧ kd = .d (.bool (decide (p < q)))) ∨
  (ks = [.d (.tuple [.int 0, numD p, .int 0]), .d (.tuple [.int 1, numD 0, .int 0])] ∧ kd = .d (.bool true)))
theorem c_comes_before (T : Txt c mg aZ aT) (S : Src c.K mg "comes_before" t_comes_before ["first", "second"]) (c_is_less : Def P w c.K mg base "is_less" ["first", "second"] 1 (spF c R_is_less)) :
    Def P w c.K mg base "comes_before" ["first", "second"] 2 (spF c R_comes_before) := S.ok fun f fd F => by
  refine F.ok sc_comes_before (fun vs H Q E h => ?_) (fun cdv A outer s H vs Q E hr h => ?_)
  · obtain ⟨_, _, hk, ⟨p, _, ⟨q, _, rfl, _⟩ | ⟨rfl, _⟩⟩, _⟩ := h <;> exact hk.length
  · obtain ⟨_, _, hk, ⟨p, hp, ⟨q, hq, rfl, rfl⟩ | ⟨rfl, rfl⟩⟩, k⟩ := h
    · obtain ⟨v0, v1, rfl, r0, r1⟩ := KpAll.two hk
      refine ⟨_, (pss_cons (ps_if (pt_cmpR (oNeD c.K rfl hr.units) (pe_ix (ixT c.K rfl) (pv 0) pe_int (fun _ _ => rfl)) (pe_ix (ixT c.K rfl) (pv 1) pe_int (fun _ _ => rfl)) (nomark _)) (pss_one (ps_ret (pe_cmpR op_lt (pe_ix (ixT c.K rfl) (pv 0) pe_int (fun _ _ => rfl)) (pe_ix (ixT c.K rfl) (pv 1) pe_int (fun _ _ => rfl)) (nomark _)))) pss_nil)
      (pss_cons (ps_if (pt_cmpR (oNeD c.K rfl hr.units) (pe_ix (ixT c.K rfl) (pv 0) pe_int (fun _ _ => rfl)) (pe_ix (ixT c.K rfl) (pv 1) pe_int (fun _ _ => rfl)) (nomark _)) (pss_one (ps_ret (c_is_less.pe (hr.mono (by decide)) (by rfl) (pa_cons (pe_ix (ixT c.K rfl) (pv 0) pe_int (fun _ _ => rfl)) (pa_cons (pe_ix (ixT c.K rfl) (pv 1) pe_int (fun _ _ => rfl)) pa_nil))))) pss_nil)
      (pss_one (ps_ret (pe_cmpR op_lt (pe_ix (ixT c.K rfl) (pv 0) pe_int (fun _ _ => rfl)) (pe_ix (ixT c.K rfl) (pv 1) pe_int (fun _ _ => rfl)) (nomark _)))))), ?_⟩
      refine n_ifF (et_test (ev_neD (ev_ixT (ev_var rfl r0) ev_int (atI_nat (j := 0) rfl)) (ev_ixT (ev_var rfl r1) ev_int (atI_nat (j := 0) rfl)) (.d _) (.d _) rfl rfl)) fun H1 e1 => ?_
      have r0 := r0.mono e1
      have r1 := r1.mono e1
      refine n_ifE (et_test (ev_neD (ev_ixT (ev_var rfl r0) ev_int (atI_nat (j := 1) rfl)) (ev_ixT (ev_var rfl r1) ev_int (atI_nat (j := 1) rfl)) (.d _) (.d _) rfl rfl)) (fun _ H2 e2 => ?_) fun hb H2 e2 => ?_
      · have r0 := r0.mono e2
        have r1 := r1.mono e2
        exact s_ret (ev_call (ea_cons (ev_ixT (ev_var rfl r0) ev_int (atI_nat (j := 1) rfl)) (ea_cons (ev_ixT (ev_var rfl r1) ev_int (atI_nat (j := 1) rfl)) ea_nil)) ⟨p, q, rfl, hp, hq, rfl⟩) fun v H3 e3 r => k v H3 ((e1.trans e2).trans e3) r
      · have r0 := r0.mono e2
        have r1 := r1.mono e2
        rw [eqv_num] at hb
        have e : p = q := of_decide_eq_true (by simpa using hb)
        refine s_ret (ev_is (ev_B0 (g := fun i j => decide (i < j)) (ev_ixT (ev_var rfl r0) ev_int (atI_nat (j := 2) rfl)) (ev_ixT (ev_var rfl r1) ev_int (atI_nat (j := 2) rfl))) ?_) fun v H3 e3 r => k v H3 ((e1.trans e2).trans e3) r
        rw [e, decide_eq_false (Rat.lt_irrefl)]
        rfl
    · obtain ⟨v0, v1, rfl, r0, r1⟩ := KpAll.two hk
      refine ⟨_, (pss_cons (ps_if (pt_cmpR (oNeD c.K rfl hr.units) (pe_ix (ixT c.K rfl) (pv 0) pe_int (fun _ _ => rfl)) (pe_ix (ixT c.K rfl) (pv 1) pe_int (fun _ _ => rfl)) (nomark _)) (pss_one (ps_ret (pe_cmpR op_lt (pe_ix (ixT c.K rfl) (pv 0) pe_int (fun _ _ => rfl)) (pe_ix (ixT c.K rfl) (pv 1) pe_int (fun _ _ => rfl)) (nomark _)))) pss_nil)
      (pss_cons (ps_if (pt_cmpR (oNeD c.K rfl hr.units) (pe_ix (ixT c.K rfl) (pv 0) pe_int (fun _ _ => rfl)) (pe_ix (ixT c.K rfl) (pv 1) pe_int (fun _ _ => rfl)) (nomark _)) (pss_one (ps_ret (c_is_less.pe (hr.mono (by decide)) (by rfl) (pa_cons (pe_ix (ixT c.K rfl) (pv 0) pe_int (fun _ _ => rfl)) (pa_cons (pe_ix (ixT c.K rfl) (pv 1) pe_int (fun _ _ => rfl)) pa_nil))))) pss_nil)
      (pss_one (ps_ret (pe_cmpR op_lt (pe_ix (ixT c.K rfl) (pv 0) pe_int (fun _ _ => rfl)) (pe_ix (ixT c.K rfl) (pv 1) pe_int (fun _ _ => rfl)) (nomark _)))))), ?_⟩
      refine n_ifE (b := true) (et_test (ev_neD (ev_ixT (ev_var rfl r0) ev_int (atI_nat (j := 0) rfl)) (ev_ixT (ev_var rfl r1) ev_int (atI_nat (j := 0) rfl)) (.d _) (.d _) rfl rfl)) (fun _ H1 e1 => ?_) (fun z => nomatch z)
      have r0 := r0.mono e1
      have r1 := r1.mono e1
      exact s_ret (ev_B0 (g := fun i j => decide (i < j)) (ev_ixT (ev_var rfl r0) ev_int (atI_nat (j := 0) rfl)) (ev_ixT (ev_var rfl r1) ev_int (atI_nat (j := 0) rfl))) fun v H3 e3 r => k v H3 (e1.trans e3) r
def R_check_income (ks : List KD) (kd : KD) : Prop := ∃ p : Rat, ks = [.d (numD p)] ∧ Sm p ∧ 0 ≤ p ∧ kd = .d .none
theorem c_check_income (T : Txt c mg aZ aT) (S : Src c.K mg "check_income" t_check_income ["income"]) (c_is_less : Def P w c.K mg base "is_less" ["first", "second"] 1 (spF c R_is_less)) (c_is_number : Def P w c.K mg base "is_number" ["value"] 2 (spF c R_is_number)) :
    Def P w c.K mg base "check_income" ["income"] 3 (spF c R_check_income) := S.ok fun f fd F => by
  refine F.ok sc_check_income (fun vs H Q E h => ?_) (fun cdv A outer s H vs Q E hr h => ?_)
  · obtain ⟨_, _, hk, ⟨p, rfl, _⟩, _⟩ := h
    exact hk.length
  · obtain ⟨_, _, hk, ⟨p, rfl, hp, h0, rfl⟩, k⟩ := h
    obtain ⟨v0, rfl, r0⟩ := KpAll.one hk
    refine ⟨_, (pss_one (ps_if (PW.pt (pw_or (pt_not (pt_val (c_is_number.pe (hr.mono (by decide)) (by rfl) (pa_cons (pv 0) pa_nil)))) (pw_or1 (pt_val (c_is_less.pe (hr.mono (by decide)) (by rfl) (pa_cons (pv 0) (pa_cons (pe_glob (v := .ref aZ) (by rfl) T.mgZERO rfl) pa_nil))))))) (pss_one ps_never) pss_nil)), ?_⟩
    refine s_ifF (et_or (a := false) (b := false) (et_not (a := true) (et_val (ev_call (ea_cons (ev_var rfl r0) ea_nil) ⟨p, rfl, rfl⟩))) fun _ => et_val (ev_is (ev_call (ea_cons (ev_var rfl r0) (ea_cons (ev_glob (kd := .d (numD 0)) (T.zero H)) ea_nil)) ⟨p, 0, rfl, hp, ht_zero.mono (by decide), rfl⟩) ?_)) fun H1 e1 => k _ H1 e1 .non
    rw [decide_eq_false (Rat.not_lt.mpr h0)]
def R_reached_by (ks : List KD) (kd : KD) : Prop := ∃ (n : Nd) (y : Rat), ks = [.d (nodeD n), .d (numD y)] ∧ SmL n y ∧ kd = .d (numD (lineAt n y))
theorem c_reached_by (T : Txt c mg aZ aT) (S : Src c.K mg "reached_by" t_reached_by ["node", "income"]) (c_plus : Def P w c.K mg base "plus" ["first", "second"] 3 (spF c R_plus)) (c_product : Def P w c.K mg base "product" ["first", "second"] 3 (spF c R_product)) (c_minus : Def P w c.K mg base "minus" ["first", "second"] 4 (spF c R_minus)) :
    Def P w c.K mg base "reached_by" ["node", "income"] 5 (spF c R_reached_by) := S.ok fun f fd F => by
  refine F.ok sc_reached_by (fun vs H Q E h => ?_) (fun cdv A outer s H vs Q E hr h => ?_)
  · obtain ⟨_, _, hk, ⟨p, _, rfl, _⟩, _⟩ := h
    exact hk.length
  · obtain ⟨_, _, hk, ⟨n, y, rfl, hs, rfl⟩, k⟩ := h
    obtain ⟨v0, v1, rfl, r0, r1⟩ := KpAll.two hk
    refine ⟨_, (pss_one (ps_ret (c_plus.pe (hr.mono (by decide)) (by rfl) (pa_cons (pe_ix (ixT c.K rfl) (pv 0) pe_int (fun _ _ => rfl)) (pa_cons (c_product.pe (hr.mono (by decide)) (by rfl) (pa_cons (pe_ix (ixT c.K rfl) (pv 0) pe_int (fun _ _ => rfl)) (pa_cons (c_minus.pe (hr.mono (by decide)) (by rfl) (pa_cons (pv 1) (pa_cons (pe_ix (ixT c.K rfl) (pv 0) pe_int (fun _ _ => rfl)) pa_nil))) pa_nil))) pa_nil))))), ?_⟩
    refine s_ret (ev_call (R := R_plus) (ea_cons (ev_ixT (ev_var rfl r0) ev_int (atI_nat (j := 2) rfl)) (ea_cons (ev_call (R := R_product) (ea_cons (ev_ixT (ev_var rfl r0) ev_int (atI_nat (j := 3) rfl)) (ea_cons (ev_call (R := R_minus)
      (ea_cons (ev_var rfl r1) (ea_cons (ev_ixT (ev_var rfl r0) ev_int (atI_nat (j := 0) rfl)) ea_nil)) ⟨y, n.x, rfl, hs.hy, hs.hx, rfl⟩) ea_nil)) ⟨n.k, y - n.x, rfl, hs.hk, hs.hd, rfl⟩) ea_nil)) ⟨n.s, n.k * (y - n.x), rfl, hs.hs, hs.hp, rfl⟩) k
def R_node_near (ks : List KD) (kd : KD) : Prop := ∃ (f : List Nd) (y : Rat), ks = [.d (.tuple (f.map nodeD)), .d (numD y)] ∧ f.length ≤ 1000 ∧ (∀ n ∈ f, Sm n.x) ∧ (∃ n ∈ f, ¬ y < n.x) ∧ SmL (near f y) y ∧
  kd = .d (.tuple [numD (vl f y), numD (st f y), numD (sl f y)])
theorem near_some {f : List Nd} {y : Rat} (h : ∃ n ∈ f, ¬ y < n.x) : (f.filter fun n => !decide (y < n.x)).getLast? = some (near f y) := by
  obtain ⟨n, hn, hy⟩ := h
  have hne : (f.filter fun n => !decide (y < n.x)) ≠ [] := by
    intro z
    have : n ∈ (f.filter fun n => !decide (y < n.x)) := List.mem_filter.mpr ⟨hn, by simp [hy]⟩
    rw [z] at this
    cases this
  unfold near
  rw [List.getLast?_eq_some_getLast hne]
  rfl
theorem c_node_near (T : Txt c mg aZ aT) (S : Src c.K mg "node_near" t_node_near ["nodes", "income"]) (c_reached_by : Def P w c.K mg base "reached_by" ["node", "income"] 5 (spF c R_reached_by)) (c_is_less : Def P w c.K mg base "is_less" ["first", "second"] 1 (spF c R_is_less)) :
    Def P w c.K mg base "node_near" ["nodes", "income"] 6 (spF c R_node_near) := S.ok fun f fd F => by
  refine F.ok sc_node_near (fun vs H Q E h => ?_) (fun cdv A outer s H vs Q E hr h => ?_)
  · obtain ⟨_, _, hk, ⟨f, y, rfl, _⟩, _⟩ := h
    exact hk.length
  · obtain ⟨_, _, hk, ⟨g, y, rfl, hl, hx, he, hs, rfl⟩, k⟩ := h
    obtain ⟨v0, v1, rfl, r0, r1⟩ := KpAll.two hk
    refine ⟨_, (pss_cons (ps_set (i := 2) sc_node_near.nd rfl (Or.inl rfl) (pe_ix (ixL c.K rfl) (pe_lc (own := [("one", 4)]) (g := gName 4) (by rfl) sc_node_near.nd (piT c.K rfl (pv 0)) (blkOk_by (own := [("one", 4)]) (N := ["nodes", "income", "node", "start", "one"]) (sc := defScope t_node_near) (by decide +kernel)) (fun _ _ _ _ _ => pg_name (i := 4) sc_node_near.nd rfl (Or.inl rfl)) (fun _ _ _ _ _ => (pts_one (pt_not (pt_val (c_is_less.pe (hr.mono (by decide)) (by rfl) (pa_cons (pv 1) (pa_cons (pe_ix (ixT c.K rfl) (pv 4) pe_int (fun _ _ => rfl)) pa_nil))))))) (fun _ _ _ _ _ => (pv 4))) (pe_un un_neg pe_int) (fun _ _ => rfl)))
      (pss_cons (ps_set (i := 3) sc_node_near.nd rfl (Or.inl rfl) (c_reached_by.pe (hr.mono (by decide)) (by rfl) (pa_cons (pv 2) (pa_cons (pv 1) pa_nil))))
      (pss_one (ps_ret (pe_tup (pa_cons (pe_ifExp (pt_cmpR (oEqD c.K rfl hr.units) (pe_ix (ixT c.K rfl) (pv 2) pe_int (fun _ _ => rfl)) (pv 1) (nomark _)) (pe_ix (ixT c.K rfl) (pv 2) pe_int (fun _ _ => rfl)) (pv 3)) (pa_cons (pv 3) (pa_cons (pe_ix (ixT c.K rfl) (pv 2) pe_int (fun _ _ => rfl)) pa_nil)))))))), ?_⟩
    refine n_asg (kd := .d (nodeD (near g y))) (ev_ixL (ds := (g.filter fun n => !decide (y < n.x)).map nodeD) (EvF.k (ef_lcT nodeD g (fun n => !decide (y < n.x)) nodeD hl (ev_var rfl r0) (fun n hn v H1 e1 rv => ?_) fun n hn _ v H1 e1 rv => ?_)) (ev_neg ev_int) ?_) fun v2 H1 e1 r2 => ?_
    · exact et_not (et_val (ev_call (ea_cons (ev_var rfl (r1.mono e1)) (ea_cons (ev_ixT (ev_var (kd := .d (nodeD n)) rfl rv) ev_int (atI_nat (j := 0) rfl)) ea_nil)) ⟨y, n.x, rfl, hs.hy, hx n hn, rfl⟩))
    · exact ev_var (kd := .d (nodeD n)) rfl rv
    · refine atI_back ?_
      rw [List.getLast?_map, near_some he]
      rfl
    · have r0 := r0.mono e1
      have r1 := r1.mono e1
      refine n_asg (ev_call (ea_cons (ev_var rfl r2) (ea_cons (ev_var rfl r1) ea_nil)) ⟨near g y, y, rfl, hs, rfl⟩) fun v3 H2 e2 r3 => ?_
      have r1 := r1.mono e2
      have r2 := r2.mono e2
      refine s_ret (ev_tup (ed_cons (ev_if (b := decide ((near g y).x = y)) (et_test (ev_is (ev_eqD (ev_ixT (ev_var rfl r2) ev_int (atI_nat (j := 0) rfl)) (ev_var rfl r1) (.d _) (.d _) rfl rfl) (by rw [eqv_num]))) (fun hb => ev_is (ev_ixT (ev_var rfl r2) ev_int (atI_nat (j := 1) rfl)) ?_) fun hb => ev_is (ev_var rfl r3) ?_)
        (ed_cons (ev_var rfl r3) (ed_cons (ev_ixT (ev_var rfl r2) ev_int (atI_nat (j := 3) rfl)) ed_nil)))) fun v H3 e3 r => k v H3 ((e1.trans e2).trans e3) r
      · unfold vl
        rw [if_pos (of_decide_eq_true hb)]
      · unfold vl
        rw [if_neg (of_decide_eq_false hb)]
end
end K66
set_option Elab.async false
set_option linter.all false
set_option autoImplicit false
set_option maxRecDepth 100000
set_option maxHeartbeats 4000000
/-! KOwn: operators, ==, != and calls that the class of curves defines. -/
namespace K66
open PySem PySem.Spec PyProof.Rows L2
open Evl (Ex EvT)
open PySem.W (InstAt)
section
variable {prog : Program} {w : World} {A : Around} {E : Value → Shared → Prop} {s : Shared} {K : Fg} {x y C f : Addr} {ox : Obj} {od : Option Obj} {Q : Value → Shared → Prop}
/-- the method object.__ne__ of an instance whose class has an own __eq__ -/
theorem ne_body (X : K.In s.heap) (I : InstAt s.heap x ox C od) (he : PySem.W.findIn K (.ref C) "__eq__" = some (some (.ref f))) (hf : PySem.W.isFn K (.ref f) = true) (hu : A.units < cLine) {R : Fin → Shared → Prop}
    (h : wpAny (model prog w) A (call (.ref f) [.ref x, .ref y]) (fun v s' => ∃ b, v = .bool b ∧ R (.done (.ret (.bool (!b)))) s') E s) :
    wpAny (model prog w) A (Builtin.«object.__ne__» ⟨[.ref x, .ref y], []⟩) R E s := by
  unfold Builtin.«object.__ne__»
  have go : wpAny (model prog w) A (callSpecialIfBound? (.ref x) (Str.ofString "__eq__") [.ref y]) (fun r s' => ∃ b, r = some (.bool b) ∧ R (.done (.ret (.bool (!b)))) s') E s :=
    PySem.W.ifBound_K X I he hf (wpAny_mono h (fun v s' ⟨b, e, q⟩ => ⟨b, by rw [e], q⟩) fun _ _ z => z)
  repeat (first
    | with_reducible refine wpAny_cRoomFor hu ?_
    | (refine wpAny_bind (m := callSpecialIfBound? (.ref x) (Str.ofString "__eq__") [.ref y]) (wpAny_mono go (fun r s' hr => by
          obtain ⟨b, rfl, hq⟩ := hr
          repeat (first | exact hq | exact wpAny_pure hq | exact wpAny_truthy_bool hq | (refine wpAny_bind (m := truthy (.bool _)) (wpAny_truthy_bool ?_)) | wp_step)) fun _ _ e => e))
    | wp_step)
theorem ne_try (X : K.In s.heap) (I : InstAt s.heap x ox C od) (hn : PySem.W.findIn K (.ref C) "__ne__" = some (some (.builtin "object.__ne__"))) (he : PySem.W.findIn K (.ref C) "__eq__" = some (some (.ref f)))
    (hf : PySem.W.isFn K (.ref f) = true) (ho : PySem.W.subIn K (.ref C) (.type "object") = some true) (hu : A.units + 1 < cLine) {R : Option Value → Shared → Prop}
    (h : wpAny (model prog w) A.in1 (call (.ref f) [.ref x, .ref y]) (fun v s' => ∃ b, v = .bool b ∧ R (some (.bool (!b))) s') E s) :
    wpAny (model prog w) A (tryCompare (.ref x) "__ne__" (.ref y)) R E s := by
  have FB := PySem.F.cmp_object
  have fin : wpAny (model prog w) A (call (.builtin "object.__ne__") [.ref x, .ref y]) (fun v s' => ∃ b, v = .bool b ∧ R (some (.bool b)) s') E s := by
    refine wpAny_call (codeAny_call_builtin FB.ne.plain PySem.F.cmpEntry_ne (PySem.W.check_slot PySem.F.cmpKind_ne PySem.F.cmpSplit_ne ?_ (PySem.F.cmpArgs_ne _ _) (ne_body (A := A.in1) X I he hf hu ?_)))
    · exact I.type.andThen (PySem.W.looks_subIn X ho)
    · refine wpAny_mono h (fun v s' hv => ?_) fun _ _ z => z
      obtain ⟨b, rfl, q⟩ := hv
      exact ⟨b, rfl, ⟨_, rfl, q⟩⟩
  simp only [tryCompare, callSpecialIfBound?, bindSpecialIfBound?]
  refine wpAny_bind (wpAny_holding (wpAny_bind (wpAny_bind (wpAny_bind (I.type.here ((PySem.W.looks_findIn X hn).here ?_))))))
  simp only [FB.ne.bind]
  have done : ∀ {R' : Option Value → Shared → Prop}, (∀ b s', R (some (.bool b)) s' → R' (some (.bool b)) s') → wpAny (model prog w) A (call (.builtin "object.__ne__") ([.ref x] ++ [.ref y]) >>= fun v => pure (some v)) R' E s := fun hR =>
    wpAny_bind (wpAny_mono fin (fun v s' hv => by
      obtain ⟨b, rfl, q⟩ := hv
      exact wpAny_pure (hR b s' q)) fun _ _ z => z)
  refine wpAny_bind (wpAny_askSetting (wpAny_ite ?_))
  have last : ∀ b s', R (some (.bool b)) s' → wpAny (model prog w) A (match (some (.bool b) : Option Value) with | some .notImplemented | none => pure none | some v => pure (some v)) R E s' := fun b s' q => wpAny_pure q
  split
  · exact wpAny_bind (wpAny_pure (wpAny_pure (done last)))
  · exact wpAny_tryCatch (wpAny_bind (wpAny_pure (wpAny_pure (done last))))
theorem ne_own {h₀ : Heap} {L : Addr} {m : Str → Option Value} (F : Fr h₀ L s.heap m) (X₀ : K.In h₀) (I : InstAt s.heap x ox C od) (hb : PySem.W.Looks (model prog w) s.heap (typeOf (.ref y)) (.ref C))
    (hn : PySem.W.findIn K (.ref C) "__ne__" = some (some (.builtin "object.__ne__"))) (he : PySem.W.findIn K (.ref C) "__eq__" = some (some (.ref f)))
    (hf : PySem.W.isFn K (.ref f) = true) (ho : PySem.W.subIn K (.ref C) (.type "object") = some true) (hu : A.units + 1 < cLine)
    (h : wpAny (model prog w) A.in1 (call (.ref f) [.ref x, .ref y]) (fun v s' => ∃ b, v = .bool b ∧ Q (.bool (!b)) s') E s) :
    wpAny (model prog w) A (compareOp .NotEq (.ref x) (.ref y)) Q E s := by
  have X := X₀.keeps F.keep
  unfold compareOp richCompare
  simp only [oneThing_ref]
  refine wpAny_holding (wpAny_bind (wpAny_cRoomFor (Nat.lt_of_succ_lt hu) ?_))
  rw [cmpInfo_NotEq]
  dsimp only
  refine wpAny_bind (I.type.here (wpAny_bind (hb.here ?_)))
  rw [show (Value.ref C != Value.ref C) = false from by simp]
  simp only [Bool.false_eq_true, if_false]
  refine wpAny_bind (wpAny_pure ?_)
  simp only [Bool.false_eq_true, if_false]
  refine wpAny_bind (ne_try X I hn he hf ho hu (wpAny_mono h (fun v s' hv => ?_) fun _ _ e => e))
  obtain ⟨b, rfl, hq⟩ := hv
  exact ⟨b, rfl, wpAny_pure hq⟩
end
/-- an operator of two instances of the class at C, by its def -/
def rOwnB (C : Addr) (sp : Sp) : R2 := fun x y H Q => ∃ a dx fs b dy gs, x = .ref a ∧ y = .ref b ∧ H a = some (.ins C dx fs) ∧ H b = some (.ins C dy gs) ∧ sp [x, y] H Q E0
def rOwnN (C : Addr) (sp : Sp) : R2 := fun x y H Q => ∃ a dx fs b dy gs, x = .ref a ∧ y = .ref b ∧ H a = some (.ins C dx fs) ∧ H b = some (.ins C dy gs) ∧ sp [x, y] H (fun z H' => ∃ k, z = .bl k ∧ Q (.bl (!k)) H') E0
section
variable {X : Cx} {C g : Addr} {n : Nat} {sp : Sp}
theorem op_ownB {op : Operator} (hc : PySem.W.selfFirst X.K C = true) (hs : PySem.W.findIn X.K (.ref C) (PySem.dunder op.info.2) = some (some (.ref g))) (hf : PySem.W.isFn X.K (.ref g) = true)
    (F : FnR X.prog X.w X.K X.mg X.base CX0 n g sp) (hr : Room n X.A) : OpR X (binaryOp op) (rOwnB C sp) := by
  intro pins s σ H x y v u Q I rx ry h
  obtain ⟨a, dx, fs, b, dy, gs, rfl, rfl, ha, hb, q⟩ := h
  cases (show v = Value.ref a from rx)
  cases (show u = Value.ref b from ry)
  obtain ⟨mA, J, _⟩ := ins_get I.hok ha
  obtain ⟨mB, J', _⟩ := ins_get I.hok hb
  obtain ⟨od, J, _⟩ := J.look
  obtain ⟨od', J', _⟩ := J'.look
  obtain ⟨m, hF⟩ := I.fr
  refine PySem.W.binop_K hF I.ok.mod.kin J J'.type hc hs hf ?_
  refine wpAny_mono (wpAny_call (run_fnR (us := [.ref a, .ref b]) (vs := [.ref a, .ref b]) F hr pass0 I (.cons rfl (.cons rfl .nil)) q)) (fun w s' z => ?_) fun _ _ x => x
  obtain ⟨z', H', I', rz, qz⟩ := z
  exact SlX.cmpback rz ⟨z', H', I', rz, qz⟩
theorem op_eqO (hs : PySem.W.findIn X.K (.ref C) "__eq__" = some (some (.ref g))) (hf : PySem.W.isFn X.K (.ref g) = true) (F : FnR X.prog X.w X.K X.mg X.base CX0 n g sp) (hr : Room n X.A) : OpR X (compareOp .Eq) (rOwnB C sp) := by
  intro pins s σ H x y v u Q I rx ry h
  obtain ⟨a, dx, fs, b, dy, gs, rfl, rfl, ha, hb, q⟩ := h
  cases (show v = Value.ref a from rx)
  cases (show u = Value.ref b from ry)
  obtain ⟨mA, J, _⟩ := ins_get I.hok ha
  obtain ⟨mB, J', _⟩ := ins_get I.hok hb
  obtain ⟨od, J, _⟩ := J.look
  obtain ⟨od', J', _⟩ := J'.look
  obtain ⟨m, hF⟩ := I.fr
  refine PySem.W.cmp_K (op := .Eq) (tb := .ref C) hr.units0 hF I.ok.mod.kin J J'.type (by simp [PySem.W.notFirst]) hs hf ?_
  refine wpAny_mono (wpAny_call (run_fnR (us := [.ref a, .ref b]) (vs := [.ref a, .ref b]) F hr pass0 I (.cons rfl (.cons rfl .nil)) q)) (fun w s' z => ?_) fun _ _ x => x
  obtain ⟨z', H', I', rz, qz⟩ := z
  exact SlX.cmpback rz ⟨z', H', I', rz, qz⟩
theorem op_neO (hn : PySem.W.findIn X.K (.ref C) "__ne__" = some (some (.builtin "object.__ne__"))) (ho : PySem.W.subIn X.K (.ref C) (.type "object") = some true) (hs : PySem.W.findIn X.K (.ref C) "__eq__" = some (some (.ref g)))
    (hf : PySem.W.isFn X.K (.ref g) = true) (F : FnR X.prog X.w X.K X.mg X.base CX0 n g sp) (hr : Room (n + 1) X.A) : OpR X (compareOp .NotEq) (rOwnN C sp) := by
  intro pins s σ H x y v u Q I rx ry h
  obtain ⟨a, dx, fs, b, dy, gs, rfl, rfl, ha, hb, q⟩ := h
  cases (show v = Value.ref a from rx)
  cases (show u = Value.ref b from ry)
  obtain ⟨mA, J, _⟩ := ins_get I.hok ha
  obtain ⟨mB, J', _⟩ := ins_get I.hok hb
  obtain ⟨od, J, _⟩ := J.look
  obtain ⟨od', J', _⟩ := J'.look
  obtain ⟨m, hF⟩ := I.fr
  refine ne_own hF I.ok.mod.kin J J'.type hn hs hf ho (hu_of hr) ?_
  refine wpAny_mono (wpAny_call (SlX.run_at (us := [.ref a, .ref b]) (ws := [.ref a, .ref b]) F hr.in1 I.env0.in1 pass0 I (.cons rfl (.cons rfl .nil)) q)) (fun w s' z => ?_) fun _ _ x => x
  obtain ⟨z', H', I', rz, k, rfl, qz⟩ := z
  cases rz
  exact ⟨k, rfl, .bl (!k), H', I', rfl, qz⟩
end
end K66
set_option Elab.async false
set_option linter.all false
set_option autoImplicit false
set_option maxRecDepth 100000
set_option maxHeartbeats 4000000
/-! KM: the methods of the class of curves; its instances made. -/
namespace K66
open PySem PySem.Spec PyProof.Rows L2
open Evl (Ex EvT)
def SrcM (K : Fg) (C : Addr) (nm qual : Str) (st : Stmt) (ps : List Str) : Prop := ∃ f fd, Fun K nm qual st f fd ∧ PySem.W.findIn K (.ref C) nm = some (some (.ref f)) ∧ PySem.W.isFn K (.ref f) = true ∧ Binds K fd ps []
def DefM (P : Program) (w : World) (K : Fg) (mg : Str → Option Value) (base : Heap) (C : Addr) (nm : Str) (ps : List Str) (k : Nat) (sp : Sp) : Prop :=
  ∃ f fd, FnOk P w K mg base CX0 k f fd ps sp ∧ PySem.W.findIn K (.ref C) nm = some (some (.ref f)) ∧ PySem.W.isFn K (.ref f) = true ∧ PySem.W.keepIn K (.ref f) = true ∧ PySem.W.fnIn K f = true ∧ Binds K fd ps []
theorem SrcM.ok {P : Program} {w : World} {K : Fg} {mg : Str → Option Value} {base : Heap} {C : Addr} {nm qual : Str} {st : Stmt} {ps : List Str} {k : Nat} {sp : Sp} (S : SrcM K C nm qual st ps)
    (h : ∀ f fd, Fun K nm qual st f fd → FnOk P w K mg base CX0 k f fd ps sp) : DefM P w K mg base C nm ps k sp := by
  obtain ⟨f, fd, F, h1, h2, hb⟩ := S
  refine ⟨f, fd, h f fd F, h1, h2, F.kp, ?_, hb⟩
  obtain ⟨oc, od, kV, doc, pm, an, cdv, ct, osl, rfl, lk, hcd⟩ := F.ex
  unfold PySem.W.fnIn
  rw [lk]
section
variable {X : Cx} {c : Cv} {mg : Str → Option Value} {aZ aT : Addr} {nm : Str} {ps : List Str} {k : Nat} {sp : Sp} {e o : Expr} {es : List Expr} {ta : TE} {t : TA} {p pos apos : Pos}
theorem DefM.raw (d : DefM X.prog X.w c.K X.mg X.base c.C nm ps k sp) (hK : X.K = c.K) : ∃ f, FnR X.prog X.w X.K X.mg X.base CX0 k f sp ∧ PySem.W.findIn X.K (.ref c.C) nm = some (some (.ref f)) ∧ PySem.W.isFn X.K (.ref f) = true ∧ PySem.W.fnIn X.K f = true := by
  obtain ⟨f, fd, F, h1, h2, h3, h4, hb⟩ := d
  rw [hK]
  refine ⟨f, ?_, h1, h2, h4⟩
  have r := F.raw hb .nil
  simpa only [List.append_nil] using r
theorem DefM.add (d : DefM X.prog X.w c.K X.mg X.base c.C "__add__" ps k sp) (T : Txt c mg aZ aT) (hK : X.K = c.K) (hr : Room k X.A) : OpR X (binaryOp .Add) (rOwnB c.C sp) := by
  obtain ⟨f, F, h1, h2, h3⟩ := d.raw hK
  exact op_ownB (op := .Add) (by rw [hK]; exact T.sf) h1 h2 F hr
theorem DefM.sub (d : DefM X.prog X.w c.K X.mg X.base c.C "__sub__" ps k sp) (T : Txt c mg aZ aT) (hK : X.K = c.K) (hr : Room k X.A) : OpR X (binaryOp .Sub) (rOwnB c.C sp) := by
  obtain ⟨f, F, h1, h2, h3⟩ := d.raw hK
  exact op_ownB (op := .Sub) (by rw [hK]; exact T.sf) h1 h2 F hr
theorem DefM.eq (d : DefM X.prog X.w c.K X.mg X.base c.C "__eq__" ps k sp) (T : Txt c mg aZ aT) (hK : X.K = c.K) (hr : Room k X.A) : OpR X (compareOp .Eq) (rOwnB c.C sp) := by
  obtain ⟨f, F, h1, h2, h3⟩ := d.raw hK
  exact op_eqO h1 h2 F hr
theorem DefM.ne (d : DefM X.prog X.w c.K X.mg X.base c.C "__eq__" ps k sp) (T : Txt c mg aZ aT) (hK : X.K = c.K) (hr : Room (k + 1) X.A) : OpR X (compareOp .NotEq) (rOwnN c.C sp) := by
  obtain ⟨f, F, h1, h2, h3⟩ := d.raw hK
  exact op_neO (by rw [hK]; exact T.ne) (by rw [hK]; exact T.cm) h1 h2 F hr
theorem DefM.meth {pl : Sem Bool} (d : DefM X.prog X.w c.K X.mg X.base c.C nm ps k sp) (T : Txt c mg aZ aT) (hK : X.K = c.K) (hr : Room k X.A) (he : PE X o ta) (ha : PA X (e :: es) t)
    (hst : starEach (e :: es) X.env = (false, eval e X.env) :: starEach es X.env := by rfl) (hpl : (backTo pos (starEach es X.env)).any (·.1) = false := by rfl)
    (ht : eval (.Call (.Attribute o nm apos) (e :: es) [] pos) X.env = (eval o X.env >>= fun ov => standAt apos.atName >>= fun _ => holding [ov] (getMethod ov nm pl) >>= fun x =>
      callWith pos x.1 x.2 (backTo pos (starEach (e :: es) X.env)) (backToKw pos (keywordEach [] X.env))) := by rfl) :
    PE X (.Call (.Attribute o nm apos) (e :: es) [] pos) (tMeth c.C nm sp [] E0 ta t) := by
  obtain ⟨f, fd, F, h1, h2, h3, h4, hb⟩ := d
  refine pe_meth (pl := pl) he (by rw [hK]; exact T.cl) (f := f) (fd := fd) (k := k) (ps := ps) (ds := []) (CX := CX0) ⟨by rw [hK]; exact h1, by rw [hK]; exact h2, by rw [hK]; exact h3⟩ (by rw [hK]; exact F) hr (by rw [hK]; exact hb) .nil pass0 ha hst hpl ht
theorem DefM.mk (d : DefM X.prog X.w c.K X.mg X.base c.C "__init__" ps k sp) (T : Txt c X.mg aZ aT) (hK : X.K = c.K) (hr : Room (k + 1) X.A) (hg : Gl X "Curve") (ha : PA X (e :: es) t)
    (he : starEach (e :: es) X.env = (false, eval e X.env) :: starEach es X.env := by rfl) (hpl : (backTo pos (starEach es X.env)).any (·.1) = false := by rfl) :
    PE X (.Call (.Name "Curve" p) (e :: es) [] pos) (tMake c.C sp [] E0 t) := by
  obtain ⟨f, fd, F, h1, h2, h3, h4, hb⟩ := d
  exact pe_make (f := f) (fd := fd) (k := k) (ps := ps) (ds := []) (CX := CX0) ⟨by rw [hK]; exact T.makes, by rw [hK]; exact h1, by rw [hK]; exact h2, by rw [hK]; exact T.kpC⟩ (by rw [hK]; exact F) hr hg T.mgC (by rw [hK]; exact hb) .nil pass0 ha (by decide) he hpl
theorem DefM.call (d : DefM X.prog X.w c.K X.mg X.base c.C "__call__" ps k sp) (T : Txt c mg aZ aT) (hK : X.K = c.K) (hr : Room k X.A) (he : PE X o ta) (ha : PA X (e :: es) t)
    (ht : eval (.Call o (e :: es) [] pos) X.env = (do callWith pos (← eval o X.env) [] (backTo pos (starEach (e :: es) X.env)) (backToKw pos (keywordEach [] X.env))) := by rfl)
    (hst : starEach (e :: es) X.env = (false, eval e X.env) :: starEach es X.env := by rfl) (hpl : (backTo pos (starEach es X.env)).any (·.1) = false := by rfl) :
    PE X (.Call o (e :: es) [] pos) (StX.tCallO X c.C sp E0 ta t) := by
  obtain ⟨f, F, h1, h2, h3⟩ := d.raw hK
  exact StX.pe_callO he ⟨h1, h2, h3⟩ F hr pass0 ha ht hst hpl
theorem psF {value : Expr} {tv : TE} {pos' : Pos} (K : Fg) (h : X.K = K) (ha : PE X o ta) (hv : PE X value tv) (hs : swapsWith value (some (.Attribute o nm pos')) pos.line X.env = pure false) : PS X (.Assign [.Attribute o nm pos'] value pos) (sFld K ta tv nm) := h ▸ ps_fld ha hv hs
end
/-! what is asked of nodes that are handed to Curve -/
structure OkN (f : List Nd) : Prop where
  srt : Srt f
  len : f.length ≤ 1000
  sm : ∀ m ∈ f, ∀ n ∈ f, SmL m n.x
def spInit (c : Cv) : Sp := fun vs H Q _ => ∃ (p dx : Addr) (v : V) (f : List Nd), vs = [.ref p, v] ∧ H p = some (.ins c.C dx []) ∧ Kp c H v (.l (f.map nodeD)) ∧ OkN f ∧
  ∀ (H' : Hp) (t : Addr), (∀ b o, b ≠ p → H b = some o → H' b = some o) → H' p = some (.ins c.C dx [("nodes", .ref t)]) → Fp c.K H' (.ref t) (.tuple ((mkC f).map nodeD)) → Q .non H'
section
variable {c : Cv} {σ : L2.St} {H : Hp} {ta tb te : TE} {kd : KD}
theorem ev_make {f : List Nd} (h : EvK c ta σ H (.l (f.map nodeD))) (hf : OkN f) : EvK c (tMake c.C (spInit c) [] E0 (tCons ta tNil)) σ H (.c (mkC f)) := fun H1 e Q q =>
  h H1 e _ fun v H2 e2 r x dx hx hdx ne => by
    have e3 : Ex H2 (upd (upd H2 dx (.own x)) x (.ins c.C dx [])) := by
      intro b o hb
      rw [upd_ne (ne_of_none hb hx), upd_ne (ne_of_none hb hdx)]
      exact hb
    refine ⟨x, dx, v, f, rfl, upd_same, r.mono e3, hf, fun H' t hk hp ht => ⟨rfl, q _ H' (e2.trans fun b o hb => hk b o (ne_of_none hb hx) (e3 b o hb)) ⟨x, dx, t, rfl, hp, ht⟩⟩⟩
theorem ev_ownB {R : List KD → KD → Prop} {f g : List Nd} (ha : EvK c ta σ H (.c f)) (hb : EvK c tb σ H (.c g)) (hR : R [.c f, .c g] kd) : EvK c (tOp (rOwnB c.C (spF c R)) ta tb) σ H kd :=
  ev_op ha hb fun H1 _ x y rx ry Q q => by
    obtain ⟨a, dx, t, rfl, h1, _⟩ := id (show CrvR c H1 x f from rx)
    obtain ⟨b, dy, u, rfl, h2, _⟩ := id (show CrvR c H1 y g from ry)
    exact ⟨a, dx, _, b, dy, _, rfl, rfl, h1, h2, _, kd, .cons rx (.cons ry .nil), hR, fun v H2 e2 rv => q v H2 e2 rv⟩
theorem ev_ownN {R : List KD → KD → Prop} {f g : List Nd} {b : Bool} (ha : EvK c ta σ H (.c f)) (hb : EvK c tb σ H (.c g)) (hR : R [.c f, .c g] (.d (.bool b))) : EvK c (tOp (rOwnN c.C (spF c R)) ta tb) σ H (.d (.bool (!b))) :=
  ev_op ha hb fun H1 _ x y rx ry Q q => by
    obtain ⟨a, dx, t, rfl, h1, _⟩ := id (show CrvR c H1 x f from rx)
    obtain ⟨b', dy, u, rfl, h2, _⟩ := id (show CrvR c H1 y g from ry)
    exact ⟨a, dx, _, b', dy, _, rfl, rfl, h1, h2, _, _, .cons rx (.cons ry .nil), hR, fun v H2 e2 rv => ⟨b, Fp.blE rv, q _ H2 e2 (.bl _)⟩⟩
theorem ev_meth {R : List KD → KD → Prop} {nm : Str} {f : List Nd} {k2 : KD} (ha : EvK c ta σ H (.c f)) (hb : EvK c tb σ H k2) (hR : R [.c f, k2] kd) (hn : ([("nodes", V.non)] : List (Str × V)).lookup nm = none := by decide +kernel) : EvK c (tMeth c.C nm (spF c R) [] E0 ta (tCons tb tNil)) σ H kd := fun H1 e Q q =>
  ha H1 e _ fun x H2 e2 rx => by
    obtain ⟨a, dx, t, rfl, h1, _⟩ := id (show CrvR c H2 x f from rx)
    refine ⟨a, dx, _, rfl, h1, ?_, ?_⟩
    · simp only [List.lookup] at hn ⊢
      split at hn
      · cases hn
      · rfl
    · refine hb H2 (e.trans e2) _ fun y H3 e3 ry => ?_
      exact ⟨_, kd, .cons (rx.mono e3) (.cons ry .nil), hR, fun v H4 e4 rv => q v H4 ((e2.trans e3).trans e4) rv⟩
theorem ev_callO {X : Cx} {R : List KD → KD → Prop} {f : List Nd} {k2 : KD} (ha : EvK c ta σ H (.c f)) (hb : EvK c tb σ H k2) (hR : R [.c f, k2] kd) : EvK c (StX.tCallO X c.C (spF c R) E0 ta (tCons tb tNil)) σ H kd := fun H1 e Q q =>
  ha H1 e _ fun x H2 e2 rx => by
    obtain ⟨a, dx, t, rfl, h1, _⟩ := id (show CrvR c H2 x f from rx)
    refine ⟨a, rfl, ?_⟩
    refine hb H2 (e.trans e2) _ fun y H3 e3 ry => ?_
    exact ⟨.inr ⟨dx, _, e3 _ _ h1⟩, _, kd, .cons (rx.mono e3) (.cons ry .nil), hR, fun v H4 e4 rv => q v H4 ((e2.trans e3).trans e4) rv⟩
/-- isinstance of a curve -/
theorem ev_isiC {mg : Str → Option Value} {aZ aT : Addr} {f : List Nd} (T : Txt c mg aZ aT) (ha : EvK c ta σ H (.c f)) : EvK c (tCB (rIsi c.K) (tCons ta (tCons (tC (.ref c.C)) tNil))) σ H (.d (.bool true)) := fun H1 e Q q =>
  ha H1 e _ fun v H2 e2 r => by
    obtain ⟨a, dx, t, rfl, h1, _⟩ := id (show CrvR c H2 v f from r)
    exact ⟨.ref a, .ref c.C, .ref c.C, .ref c.C, true, rfl, .own _, .base (.ins h1 T.cl T.ca T.cn T.ct T.cm), (by unfold PySem.W.kitOne; rw [if_pos (by simp)]), q _ H2 e2 (.bl true)⟩
/-- slices of a list from a place on, up to one -/
theorem cut_from (xs : List V) (j : Nat) : cutV xs (some (j : Int)) none = xs.drop j := by
  unfold cutV
  rw [HT.sIx_nat, HT.sIx_none]
  by_cases h : j ≤ xs.length
  · rw [Nat.min_eq_left h, List.take_of_length_le (by rw [List.length_drop]; exact Nat.le_refl _)]
  · rw [Nat.min_eq_right (by omega), Nat.sub_self, List.take_zero, List.drop_eq_nil_of_le (by omega)]
theorem cut_to (xs : List V) (j : Nat) : cutV xs none (some (j : Int)) = xs.take j := by
  unfold cutV
  rw [HT.sIx_nat, HT.sIx_none, Nat.sub_zero, List.drop_zero]
  by_cases h : j ≤ xs.length
  · rw [Nat.min_eq_left h]
  · rw [Nat.min_eq_right (by omega), List.take_of_length_le (by omega), List.take_of_length_le (by omega)]
theorem cut_back (xs : List V) : cutV xs none (some (-1)) = xs.take (xs.length - 1) := by
  unfold cutV
  rw [HT.sIx_none, Nat.sub_zero, List.drop_zero]
  congr 1
  show (if (-1 : Int) < 0 then ((-1 : Int) + (xs.length : Int)).toNat else min (-1 : Int).toNat xs.length) = _
  rw [if_pos (by decide)]
  omega
theorem ef_from {ds : List PyData} {j : Nat} (h : EvK c te σ H (.l ds)) (hj : EvK c ta σ H (.d (.int (j : Int)))) : EvF c (tSl (rSlL c.K) te (tPart ta) tNoPart) σ H (ds.drop j) := fun H1 e Q q =>
  h H1 e _ fun x H2 e2 r => hj H2 (e.trans e2) _ fun y H3 e3 ry => by
    obtain ⟨a, vs, rfl, h1, h2⟩ := (show LstR c H2 x ds from r)
    refine ⟨(j : Int), Fp.intE ry, a, vs, rfl, SqL.of (e3 _ _ h1), fun p hp => ?_⟩
    refine q p _ _ (Evl.fresh_back (e2.trans e3) hp) ((e2.trans e3).trans (Ex.new hp)) upd_same ?_
    rw [cut_from]
    exact ((h2.mono (Tx.of (e3.trans (Ex.new hp)))).drop j)
theorem ef_to {ds : List PyData} {j : Nat} (h : EvK c te σ H (.l ds)) (hj : EvK c ta σ H (.d (.int (j : Int)))) : EvF c (tSl (rSlL c.K) te tNoPart (tPart ta)) σ H (ds.take j) := fun H1 e Q q =>
  h H1 e _ fun x H2 e2 r => hj H2 (e.trans e2) _ fun y H3 e3 ry => by
    obtain ⟨a, vs, rfl, h1, h2⟩ := (show LstR c H2 x ds from r)
    refine ⟨(j : Int), Fp.intE ry, a, vs, rfl, SqL.of (e3 _ _ h1), fun p hp => ?_⟩
    refine q p _ _ (Evl.fresh_back (e2.trans e3) hp) ((e2.trans e3).trans (Ex.new hp)) upd_same ?_
    rw [cut_to]
    exact ((h2.mono (Tx.of (e3.trans (Ex.new hp)))).take j)
theorem ef_toBack {ds : List PyData} (h : EvK c te σ H (.l ds)) (hj : EvK c ta σ H (.d (.int (-1)))) : EvF c (tSl (rSlL c.K) te tNoPart (tPart ta)) σ H (ds.take (ds.length - 1)) := fun H1 e Q q =>
  h H1 e _ fun x H2 e2 r => hj H2 (e.trans e2) _ fun y H3 e3 ry => by
    obtain ⟨a, vs, rfl, h1, h2⟩ := (show LstR c H2 x ds from r)
    refine ⟨-1, Fp.intE ry, a, vs, rfl, SqL.of (e3 _ _ h1), fun p hp => ?_⟩
    refine q p _ _ (Evl.fresh_back (e2.trans e3) hp) ((e2.trans e3).trans (Ex.new hp)) upd_same ?_
    rw [cut_back, h2.length]
    exact ((h2.mono (Tx.of (e3.trans (Ex.new hp)))).take _)
/-- t[1:] of a tuple -/
theorem ev_from1 {d : PyData} {ds : List PyData} (h : EvK c te σ H (.d (.tuple (d :: ds)))) : EvK c (tSl (rSlT c.K) te (tPart (tC (.int 1))) tNoPart) σ H (.d (.tuple ds)) := fun H1 e Q q =>
  h H1 e _ fun x H2 e2 r => by
    obtain ⟨a, vs, rfl, h1, h2⟩ := Fp.tupE r
    have hl := h2.length
    have cut : cutV vs (some 1) none = vs.drop 1 := cut_from vs 1
    refine ⟨1, rfl, a, vs, rfl, h1, fun z => ?_, fun p hp => ?_⟩
    · have z1 := z.1
      rw [show (1 : Int) = ((1 : Nat) : Int) from rfl, HT.sIx_nat] at z1
      rw [List.length_cons] at hl
      omega
    · refine q _ _ (e2.trans (Ex.new hp)) (.tup (SqT.of upd_same) ?_)
      rw [cut]
      exact ((h2.mono (Tx.of (Ex.new hp))).drop 1)
theorem ev_tupleOf {ds : List PyData} (h : EvK c ta σ H (.l ds)) : EvK c (tCB (rTupOf c.K) (tCons ta tNil)) σ H (.d (.tuple ds)) :=
  ev_cb (ea_cons h ea_nil) fun H1 _ vs r Q q => by
    obtain ⟨v, rfl, hv⟩ := KpAll.one r
    obtain ⟨a, xs, rfl, hs, hx⟩ := (show LstR c H1 v ds from hv)
    exact ⟨a, xs, rfl, .inl ⟨SqL.of hs, fun l hl => q _ _ (Ex.new hl) (.tup (SqT.of upd_same) (hx.mono (Tx.of (Ex.new hl))))⟩⟩
theorem FpAll.bools {K : Fg} {H : Hp} : ∀ {bs : List Bool} {vs : List V}, FpAll K H vs (bs.map PyData.bool) → vs = bs.map V.bl
  | [], _, h => by cases h; rfl
  | b :: bs, _, h => by
    cases h with
    | cons h t => rw [Fp.blE h, FpAll.bools t]; rfl
theorem ev_all {bs : List Bool} (h : EvK c ta σ H (.l (bs.map PyData.bool))) : EvK c (tCB (rAll c.K) (tCons ta tNil)) σ H (.d (.bool (bs.all id))) :=
  ev_cb (ea_cons h ea_nil) fun H1 _ vs r Q q => by
    obtain ⟨v, rfl, hv⟩ := KpAll.one r
    obtain ⟨a, xs, rfl, hs, hx⟩ := (show LstR c H1 v _ from hv)
    have e := FpAll.bools hx
    subst e
    exact ⟨a, bs, rfl, SqL.of hs, q _ H1 (Ex.refl H1) (.bl _)⟩
end
end K66
set_option Elab.async false
set_option linter.all false
set_option autoImplicit false
set_option maxRecDepth 100000
set_option maxHeartbeats 4000000
/-! K3: a list of nodes, the making of a curve, ==, the value at an income. -/
namespace K66
open PySem PySem.Spec PyProof.Rows L2
open Evl (Ex EvT)
theorem idle_eqv (n m : Nd) : (!PyData.eqv (.tuple [numD m.v, numD m.s, numD m.k]) (.tuple [numD (lineAt n m.x), numD (lineAt n m.x), numD n.k])) = !idle n m := by
  show (!PyData.eqvAll [numD m.v, numD m.s, numD m.k] [numD (lineAt n m.x), numD (lineAt n m.x), numD n.k]) = _
  rw [eqv_tup2, eqv_tup2, eqv_tup2]
  simp only [PyData.eqvAll, Bool.and_true]
  rfl
def lastOf (n : Nd) (l : List Nd) : Nd := ((n :: l).getLast?).getD n0
theorem thin_snoc : ∀ (l : List Nd) (n m : Nd), thin n (l ++ [m]) = if idle (lastOf n (thin n l)) m then thin n l else thin n l ++ [m]
  | [], n, m => by
    show (if idle n m then thin n [] else m :: thin m []) = _
    show (if idle n m then [] else [m]) = if idle n m then [] else [] ++ [m]
    rfl
  | a :: l, n, m => by
    rw [List.cons_append]
    unfold thin
    by_cases h : idle n a = true
    · rw [if_pos h, if_pos h, thin_snoc l n m]
    · rw [if_neg h, if_neg h, thin_snoc l a m]
      have e : lastOf n (a :: thin a l) = lastOf a (thin a l) := by
        unfold lastOf
        rw [List.getLast?_cons_cons]
      rw [e]
      split <;> rfl
theorem mem_thin : ∀ (l : List Nd) (n x : Nd), x ∈ thin n l → x ∈ l
  | [], _, _, h => h
  | a :: l, n, x, h => by
    unfold thin at h
    split at h
    · exact List.mem_cons_of_mem _ (mem_thin l n x h)
    · rcases List.mem_cons.mp h with h | h
      · rw [h]
        exact List.mem_cons_self
      · exact List.mem_cons_of_mem _ (mem_thin l a x h)
theorem mem_mkC {f : List Nd} {x : Nd} (h : x ∈ mkC f) : x ∈ f := by
  cases f with
  | nil => exact h
  | cons n t =>
    rcases List.mem_cons.mp h with h | h
    · rw [h]
      exact List.mem_cons_self
    · exact List.mem_cons_of_mem _ (mem_thin t n x h)
theorem lastOf_mem (n : Nd) (l : List Nd) : lastOf n l ∈ n :: l := by
  unfold lastOf
  rw [List.getLast?_eq_some_getLast (List.cons_ne_nil n l)]
  exact List.getLast_mem _
section
variable {P : Program} {w : World} {c : Cv} {mg : Str → Option Value} {base : Heap} {aZ aT : Addr}
def lastD (l : List Nd) : PyData := match l.getLast? with
  | none => .none
  | some n => numD n.x
def R_are_nodes (ks : List KD) (kd : KD) : Prop := ∃ f : List Nd, ks = [.l (f.map nodeD)] ∧ Srt f ∧ f.length ≤ 1000 ∧ (∀ n ∈ f, Sm n.x) ∧ kd = .d (.bool true)
theorem c_are_nodes (T : Txt c mg aZ aT) (S : Src c.K mg "are_nodes" t_are_nodes ["value"]) (c_is_less : Def P w c.K mg base "is_less" ["first", "second"] 1 (spF c R_is_less)) (c_is_number : Def P w c.K mg base "is_number" ["value"] 2 (spF c R_is_number)) :
    Def P w c.K mg base "are_nodes" ["value"] 3 (spF c R_are_nodes) := S.ok fun f fd F => by
  refine F.ok sc_are_nodes (fun vs H Q E h => ?_) (fun cdv A outer s H vs Q E hr h => ?_)
  · obtain ⟨_, _, hk, ⟨p, rfl, _⟩, _⟩ := h
    exact hk.length
  · obtain ⟨_, _, hk, ⟨g, rfl, hs, hl, hx, rfl⟩, k⟩ := h
    obtain ⟨v0, rfl, r0⟩ := KpAll.one hk
    refine ⟨_, (pss_cons (ps_if (PW.pt (pw_or (pt_not (pt_val (pe_callB (kIsi c.K rfl) (by rfl) T.isinstance (by decide +kernel) (pa_cons (pv 0) (pa_cons (pe_bltn (v := .ty "list") (u := .type "list") (by rfl) T.list (by decide +kernel) rfl) pa_nil))))) (pw_or1 (pt_cmpR (oEqD c.K rfl hr.units) (pv 0) (pe_lst pa_nil) (nomark _))))) (pss_one (ps_ret pe_bl)) pss_nil)
      (pss_cons (ps_set (i := 1) sc_are_nodes.nd rfl (Or.inl rfl) pe_non)
      (pss_cons (ps_for PassesOwn.never rfl (piL c.K rfl (pv 0)) (pg_name (i := 2) sc_are_nodes.nd rfl (Or.inl rfl)) (pss_cons (ps_if (PW.pt (pw_or (pt_not (pt_val (pe_callB (kIsi c.K rfl) (by rfl) T.isinstance (by decide +kernel) (pa_cons (pv 2) (pa_cons (pe_bltn (v := .ty "tuple") (u := .type "tuple") (by rfl) T.tuple (by decide +kernel) rfl) pa_nil))))) (pw_or (pt_cmpR (oNeD c.K rfl hr.units) (pe_callB (kLen c.K rfl) (by rfl) T.len (by decide +kernel) (pa_cons (pv 2) pa_nil)) pe_int (nomark _)) (pw_or1 (pt_not (pt_val (pe_callB (kAll c.K rfl rfl) (by rfl) T.all (by decide +kernel) (pa_cons (pe_lc (own := [("number", 3)]) (g := gName 3) (by rfl) sc_are_nodes.nd (piT c.K rfl (pv 2)) (blkOk_by (own := [("number", 3)]) (N := ["value", "last", "node", "number"]) (sc := defScope t_are_nodes) (by decide +kernel)) (fun _ _ _ _ _ => pg_name (i := 3) sc_are_nodes.nd rfl (Or.inl rfl)) (fun _ _ _ _ _ => pts_nil) (fun _ _ _ _ _ => (c_is_number.pe (hr.mono (by decide)) (by rfl) (pa_cons (pv 3) pa_nil)))) pa_nil)))))))) (pss_one (ps_ret pe_bl)) pss_nil)
      (pss_cons (ps_if (pt_ifT (pt_cmpR op_isN (pv 1) pe_non (nomark _)) (pt_cmpR (oNeD c.K rfl hr.units) (pe_ix (ixT c.K rfl) (pv 2) pe_int (fun _ _ => rfl)) (pe_glob (v := .ref aZ) (by rfl) T.mgZERO rfl) (nomark _)) (pt_not (pt_val (c_is_less.pe (hr.mono (by decide)) (by rfl) (pa_cons (pv 1) (pa_cons (pe_ix (ixT c.K rfl) (pv 2) pe_int (fun _ _ => rfl)) pa_nil)))))) (pss_one (ps_ret pe_bl)) pss_nil)
      (pss_one (ps_set (i := 1) sc_are_nodes.nd rfl (Or.inl rfl) (pe_ix (ixT c.K rfl) (pv 2) pe_int (fun _ _ => rfl)))))))
      (pss_one (ps_ret pe_bl))))), ?_⟩
    have hne : g ≠ [] := by
      intro z
      rw [z] at hs
      exact hs
    refine n_ifF (et_or (a := false) (b := false) (et_not (a := true) (et_val (ev_isi (ev_var rfl r0) (.lst _) (kit_ty (by decide +kernel))))) fun _ => et_test (ev_is (ev_eqD (ev_var rfl r0) (EvF.k (ef_lst ed_nil)) (.l _) (.l _) (shaped_nodes g).1 rfl) ?_)) fun H1 e1 => ?_
    · have e : PyData.eqv (.list (g.map nodeD)) (.list []) = false := by
        cases g with
        | nil => exact absurd rfl hne
        | cons n t => rfl
      rw [e]
    have r0 := r0.mono e1
    refine n_asg (c := c) ev_non fun v1 H2 e2 r1 => ?_
    have r0 := r0.mono e2
    refine n_forL nodeD g (ev_var rfl r0) fun a vs H3 e3 ha => ⟨fun j σ' H' => ∃ u w2 w3, σ' = [some v0, some u, w2, w3] ∧ Ex H H' ∧ Ex H3 H' ∧ Fp c.K H' u (lastD (g.take j)), ?_, ?_, ?_, ?_⟩
    · exact ⟨v1, none, none, rfl, (e1.trans e2).trans e3, Ex.refl _, Fp.mono (Tx.of e3) r1⟩
    · rintro j σ' H' ⟨u, w2, w3, _, _, e4, _⟩
      exact ⟨Tx.of e4, e4 _ _ ha⟩
    · rintro j n v σ' H' hj ⟨u, w2, w3, rfl, e4, e5, ru⟩ rv
      have rv : Kp c H' v (.d (nodeD n)) := rv
      have hn : n ∈ g := List.mem_of_getElem? hj
      have ru : Kp c H' u (.d (lastD (g.take j))) := ru
      refine n_ifF (et_or (a := false) (b := false) (et_not (a := true) (et_val (ev_isi (ev_var rfl rv) (.tup _) (kit_ty (by decide +kernel))))) fun _ => et_or (a := false) (b := false) (et_test (ev_neD (ev_lenT (ev_var rfl rv)) ev_int (.d _) (.d _) rfl rfl)) fun _ => et_not (a := true) (et_val (ev_is (ev_all (bs := [true, true, true, true]) (EvF.k (ef_lcT (fun q => numD q) [n.x, n.v, n.s, n.k] (fun _ => true) (fun _ => .bool true) (Nat.le_of_ble_eq_true rfl) (ev_var rfl rv) (fun _ _ _ _ _ _ => et_yes) fun q _ _ z H4 e6 rz => ev_call (ea_cons (ev_var (kd := .d (numD q)) rfl rz) ea_nil) ⟨q, rfl, rfl⟩))) rfl))) fun H4 e6 => ?_
      have rv := rv.mono e6
      have ru := ru.mono e6
      have key : (match (g.take j).getLast? with | none => decide (n.x = 0) | some m => decide (m.x < n.x)) = true := by
        obtain ⟨h0, h1⟩ : (∀ m, g.head? = some m → m.x = 0) ∧ g.Pairwise (fun a b => a.x < b.x) := by
          cases g with
          | nil => exact absurd rfl hne
          | cons m t => exact ⟨fun z hz => by cases hz; exact hs.1, hs.2⟩
        cases j with
        | zero =>
          show decide (n.x = 0) = true
          exact decide_eq_true (h0 n (by rw [List.head?_eq_getElem?]; exact hj))
        | succ j =>
          have hj1 : j + 1 < g.length := (List.getElem?_eq_some_iff.mp hj).1
          have hj0 : j < g.length := by omega
          have e : (g.take (j + 1)).getLast? = some g[j] := by
            rw [List.take_add_one, List.getElem?_eq_getElem hj0]
            exact List.getLast?_concat ..
          rw [e]
          have q := (List.pairwise_iff_getElem.mp h1) j (j + 1) hj0 hj1 (by omega)
          have q2 : g[j + 1] = n := Option.some.inj ((List.getElem?_eq_getElem hj1).symm.trans hj)
          rw [q2] at q
          exact decide_eq_true q
      have fin : ∀ H5, Ex H4 H5 → tAsg (tOp (rIxT c.K) (tVar 2) (tC (.int 0))) (gName 1) { nx := fun σ2 H2 => ∃ u w2 w3, σ2 = [some v0, some u, w2, w3] ∧ Ex H H2 ∧ Ex H3 H2 ∧ Fp c.K H2 u (lastD (g.take (j + 1))), rt := Q, bk := fun _ _ => True, ct := fun _ _ => True } [some v0, some u, some v, w3] H5 := fun H5 e7 =>
        s_asg (ev_ixT (ev_var rfl (rv.mono e7)) ev_int (atI_nat (j := 0) rfl)) fun z H6 e8 rz => ⟨z, some v, w3, rfl, ((e4.trans e6).trans e7).trans e8, ((e5.trans e6).trans e7).trans e8, by
          have e : lastD (g.take (j + 1)) = numD n.x := by
            unfold lastD
            rw [List.take_add_one, hj]
            simp
          rw [e]
          exact rz⟩
      cases hg : (g.take j).getLast? with
      | none =>
        rw [hg] at key
        have key : decide (n.x = 0) = true := key
        have e : lastD (g.take j) = .none := by unfold lastD; rw [hg]
        rw [e] at ru
        refine n_ifF (et_ifT (b := true) (et_test (ev_isN (ev_var rfl ru))) (fun _ => et_test (ev_is (ev_neD (ev_ixT (ev_var rfl rv) ev_int (atI_nat (j := 0) rfl)) (ev_glob (kd := .d (numD 0)) (T.zero H4)) (.d _) (.d _) rfl rfl) ?_)) fun z => nomatch z) fun H5 e7 => fin H5 e7
        rw [eqv_num, key]
        rfl
      | some m =>
        rw [hg] at key
        have key : decide (m.x < n.x) = true := key
        have hm : m ∈ g := List.mem_of_mem_take (List.mem_of_getLast? hg)
        have e : lastD (g.take j) = numD m.x := by unfold lastD; rw [hg]
        rw [e] at ru
        refine n_ifF (et_ifT (b := false) (et_test (ev_isN (ev_var rfl ru))) (fun z => nomatch z) fun _ => et_is (et_not (et_val (ev_call (ea_cons (ev_var rfl ru) (ea_cons (ev_ixT (ev_var rfl rv) ev_int (atI_nat (j := 0) rfl)) ea_nil)) ⟨m.x, n.x, rfl, hx m hm, hx n hn, rfl⟩))) ?_) fun H5 e7 => fin H5 e7
        rw [key]
        rfl
    · rintro σ' H' ⟨u, w2, w3, rfl, e4, e5, ru⟩
      exact s_ret (c := c) ev_bl fun v H5 e6 r => k v H5 (e4.trans e6) r
theorem c_Curve (T : Txt c mg aZ aT) (S : SrcM c.K c.C "__init__" "Curve.__init__" t_minit ["self", "nodes"]) (c_are_nodes : Def P w c.K mg base "are_nodes" ["value"] 3 (spF c R_are_nodes)) (c_reached_by : Def P w c.K mg base "reached_by" ["node", "income"] 5 (spF c R_reached_by)) :
    DefM P w c.K mg base c.C "__init__" ["self", "nodes"] 6 (spInit c) := S.ok fun f fd F => by
  refine F.ok sc_minit (fun vs H Q E h => ?_) (fun cdv A outer s H vs Q E hr h => ?_)
  · obtain ⟨p, dx, v, g, rfl, _⟩ := h
    rfl
  · obtain ⟨p, dx, v1, g, rfl, hp, r1, hg, k⟩ := h
    refine ⟨_, (pss_cons (ps_if (pt_not (pt_val (c_are_nodes.pe (hr.mono (by decide)) (by rfl) (pa_cons (pv 1) pa_nil)))) (pss_one ps_never) pss_nil)
      (pss_cons (ps_set (i := 2) sc_minit.nd rfl (Or.inl rfl) (pe_lst (pa_cons (pe_ix (ixL c.K rfl) (pv 1) pe_int (fun _ _ => rfl)) pa_nil)))
      (pss_cons (ps_for PassesOwn.never rfl (piL c.K rfl (pe_slice (slL c.K rfl) (pv 1) (po_some pe_int) po_none)) (pg_name (i := 3) sc_minit.nd rfl (Or.inl rfl)) (pss_cons (ps_set (i := 4) sc_minit.nd rfl (Or.inl rfl) (c_reached_by.pe (hr.mono (by decide)) (by rfl) (pa_cons (pe_ix (ixL c.K rfl) (pv 2) (pe_un un_neg pe_int) (fun _ _ => rfl)) (pa_cons (pe_ix (ixT c.K rfl) (pv 3) pe_int (fun _ _ => rfl)) pa_nil))))
      (pss_one (ps_if (pt_cmpR (oNeD c.K rfl hr.units) (pe_slice (slT c.K rfl) (pv 3) (po_some pe_int) po_none) (pe_tup (pa_cons (pv 4) (pa_cons (pv 4) (pa_cons (pe_ix (ixT c.K rfl) (pe_ix (ixL c.K rfl) (pv 2) (pe_un un_neg pe_int) (fun _ _ => rfl)) pe_int (fun _ _ => rfl)) pa_nil)))) (nomark _)) (pss_one (ps_expr (pe_bm PySem.F.plainAttrs_list PySem.F.slot_list_append PySem.F.type_list_append mt_append (pv 2) (pa_cons (pv 3) pa_nil)))) pss_nil))))
      (pss_one (psF c.K rfl (pv 0) (pe_callTy (kTuple c.K rfl) (by rfl) T.tuple (by decide +kernel) (pa_cons (pv 2) pa_nil)) rfl))))), ?_⟩
    obtain ⟨n, t, rfl⟩ : ∃ n t, g = n :: t := by
      cases g with
      | nil => exact absurd hg.srt id
      | cons n t => exact ⟨n, t, rfl⟩
    refine n_ifF (et_not (a := true) (et_val (ev_call (ea_cons (ev_var rfl r1) ea_nil) ⟨n :: t, rfl, hg.srt, hg.len, fun m hm => (hg.sm m hm m hm).hx, rfl⟩))) fun H1 e1 => ?_
    have r1 := r1.mono e1
    refine n_asgF (ef_lst (ed_cons (ev_ixL (ev_var rfl r1) ev_int (atI_nat (j := 0) rfl)) ed_nil)) fun l vs H2 hl e2 h2 rl => ?_
    have r1 := r1.mono e2
    refine n_forF nodeD t (ef_from (j := 1) (ev_var rfl r1) ev_int) fun a us H3 e3 ha0 ha => ⟨fun j σ' H' => ∃ w3 w4 acc, σ' = [some (.ref p), some v1, some (.ref l), w3, w4] ∧ Ex H H' ∧ Tx H3 H' ∧ H' a = some (.lst us) ∧ H' l = some (.lst acc) ∧ FpAll c.K H' acc ((n :: thin n (t.take j)).map nodeD), ?_, ?_, ?_, ?_⟩
    · exact ⟨none, none, vs, rfl, (e1.trans e2).trans e3, Tx.refl _, ha, e3 _ _ h2, rl.mono (Tx.of e3)⟩
    · rintro j σ' H' ⟨w3, w4, acc, _, _, e4, h4, _⟩
      exact ⟨e4, h4⟩
    · rintro j m v σ' H' hj ⟨w3, w4, acc, rfl, e4, e5, ha', hl', racc⟩ rv
      have rv : Kp c H' v (.d (nodeD m)) := rv
      have hm : m ∈ n :: t := List.mem_cons_of_mem _ (List.mem_of_getElem? hj)
      have hlast : lastOf n (thin n (t.take j)) ∈ n :: t := by
        rcases List.mem_cons.mp (lastOf_mem n (thin n (t.take j))) with h | h
        · rw [h]
          exact List.mem_cons_self
        · exact List.mem_cons_of_mem _ (List.mem_of_mem_take (mem_thin _ _ _ h))
      have rF : Kp c H' (.ref l) (.l ((n :: thin n (t.take j)).map nodeD)) := ⟨l, acc, rfl, hl', racc⟩
      have hback : L2.atI ((n :: thin n (t.take j)).map nodeD) (-1) = some (nodeD (lastOf n (thin n (t.take j)))) := by
        refine atI_back ?_
        rw [List.getLast?_map]
        unfold lastOf
        rw [List.getLast?_eq_some_getLast (List.cons_ne_nil n _)]
        rfl
      have hlen : ((n :: thin n (t.take j)).map nodeD).length < 100000 := by
        rw [List.length_map, List.length_cons]
        have q : (thin n (t.take j)).length ≤ t.length := by
          have q1 : ∀ (l : List Nd) (a : Nd), (thin a l).length ≤ l.length := by
            intro l
            induction l with
            | nil => intro a; exact Nat.le_refl _
            | cons b l ih =>
              intro a
              unfold thin
              split
              · exact Nat.le_trans (ih a) (by simp)
              · have := ih b
                simp only [List.length_cons]
                omega
          refine Nat.le_trans (q1 _ _) ?_
          rw [List.length_take]
          exact Nat.min_le_right _ _
        have := hg.len
        rw [List.length_cons] at this
        omega
      refine n_asg (ev_call (ea_cons (ev_ixL (ev_var rfl rF) (ev_neg ev_int) hback) (ea_cons (ev_ixT (ev_var rfl rv) ev_int (atI_nat (j := 0) rfl)) ea_nil)) ⟨_, m.x, rfl, hg.sm _ hlast m hm, rfl⟩) fun z H4 e6 rz => ?_
      have rv := rv.mono e6
      have rF := rF.mono e6
      have hl4 := e6 _ _ hl'
      have racc := racc.mono (Tx.of e6)
      have tk : thin n (t.take (j + 1)) = if idle (lastOf n (thin n (t.take j))) m then thin n (t.take j) else thin n (t.take j) ++ [m] := by
        rw [List.take_add_one, hj]
        exact thin_snoc _ _ _
      refine s_ifE (b := !idle (lastOf n (thin n (t.take j))) m) (et_test (ev_is (ev_neD (ev_from1 (ev_var rfl rv)) (ev_tup (ed_cons (ev_var rfl rz) (ed_cons (ev_var rfl rz) (ed_cons (ev_ixT (ev_ixL (ev_var rfl rF) (ev_neg ev_int) hback) ev_int (atI_nat (j := 3) rfl)) ed_nil)))) (.d _) (.d _) rfl rfl) (by rw [idle_eqv]))) (fun hb H5 e7 => ?_) fun hb H5 e7 => ?_
      · have hl5 := e7 _ _ hl4
        refine s_app (c := c) hl5 (racc.mono (Tx.of e7)) hlen rfl (ev_var rfl (rv.mono e7)) fun v H6 e8 r6 => ?_
        have hi : idle (lastOf n (thin n (t.take j))) m = false := by simpa using hb
        have e9 : Ex H H6 := ((e4.trans e6).trans e7).trans e8
        have hl0 : H l = none := Evl.fresh_back e1 hl
        have nal : a ≠ l := fun z => by
          rw [z] at ha0
          rw [ha0] at h2
          cases h2
        refine ⟨_, _, acc ++ [v], rfl, Ex.mut e9 hl0, ((((e5.trans (Tx.of e6)).trans (Tx.of e7)).trans (Tx.of e8)).trans (Tx.upd (e8 _ _ hl5))), ?_, upd_same, ?_⟩
        · rw [upd_ne nal]
          exact e8 _ _ (e7 _ _ (e6 _ _ ha'))
        · rw [tk, if_neg (by rw [hi]; exact Bool.false_ne_true), ← List.cons_append, List.map_append]
          exact r6
      · have hi : idle (lastOf n (thin n (t.take j))) m = true := by simpa using hb
        refine ⟨_, _, acc, rfl, (e4.trans e6).trans e7, ((e5.trans (Tx.of e6)).trans (Tx.of e7)), e7 _ _ (e6 _ _ ha'), e7 _ _ hl4, ?_⟩
        rw [tk, if_pos hi]
        exact racc.mono (Tx.of e7)
    · rintro σ' H' ⟨w3, w4, acc, rfl, e4, e5, ha', hl', racc⟩
      rw [List.take_length] at racc
      have rF : Kp c H' (.ref l) (.l ((n :: thin n t).map nodeD)) := ⟨l, acc, rfl, hl', racc⟩
      refine ev_tupleOf (ev_var rfl rF) H' (Ex.refl _) _ fun v H4 e6 rv => ?_
      obtain ⟨q, xs, rfl, hq, rq⟩ := Fp.tupE rv
      have hp4 := e6 _ _ (e4 _ _ hp)
      refine ⟨.ref p, rfl, p, c.C, dx, [], rfl, hp4, T.cl, T.nN, (by decide), ?_⟩
      refine k _ q (fun b o hb ho => ?_) upd_same ?_
      · rw [upd_ne hb]
        exact e6 _ _ (e4 _ _ ho)
      · exact (Fp.tup hq rq).map (sq_ins hp4)
def R_eq (ks : List KD) (kd : KD) : Prop := ∃ f g : List Nd, ks = [.c f, .c g] ∧ kd = .d (.bool (decide (f = g)))
theorem c_eq (T : Txt c mg aZ aT) (S : SrcM c.K c.C "__eq__" "Curve.__eq__" t_meq ["self", "other"])  :
    DefM P w c.K mg base c.C "__eq__" ["self", "other"] 1 (spF c R_eq) := S.ok fun f fd F => by
  refine F.ok sc_meq (fun vs H Q E h => ?_) (fun cdv A outer s H vs Q E hr h => ?_)
  · obtain ⟨_, _, hk, ⟨p, _, rfl, _⟩, _⟩ := h
    exact hk.length
  · obtain ⟨_, _, hk, ⟨g, g', rfl, rfl⟩, k⟩ := h
    obtain ⟨v0, v1, rfl, r0, r1⟩ := KpAll.two hk
    refine ⟨_, (pss_one (ps_ret (pe_and (pe_callB (kIsi c.K rfl) (by rfl) T.isinstance (by decide +kernel) (pa_cons (pv 1) (pa_cons (pe_glob (v := .ref c.C) (by rfl) T.mgC rfl) pa_nil))) (pe_one (pe_cmpR (oEqD c.K rfl hr.units) (peF c.K rfl (pv 0) rfl) (peF c.K rfl (pv 1) rfl) (nomark _)))))), ?_⟩
    refine s_ret (ev_andV (a := true) (b := decide (g = g')) (ev_isiC T (ev_var rfl r1)) fun _ => ev_is (ev_eqD (ev_nodes T (ev_var rfl r0)) (ev_nodes T (ev_var rfl r1)) (.d _) (.d _) (shaped_nodes g).2 (shaped_nodes g').2) ?_) k
    show KD.d (.bool (PyData.eqvAll (g.map nodeD) (g'.map nodeD))) = _
    rw [eqv_nodes]
def R_call (ks : List KD) (kd : KD) : Prop := ∃ (f : List Nd) (y : Rat), ks = [.c f, .d (numD y)] ∧ f.length ≤ 1000 ∧ (∀ n ∈ f, Sm n.x) ∧ (∃ n ∈ f, ¬ y < n.x) ∧ SmL (near f y) y ∧ 0 ≤ y ∧ kd = .d (numD (vl f y))
theorem c_call (T : Txt c mg aZ aT) (S : SrcM c.K c.C "__call__" "Curve.__call__" t_mcall ["self", "income"]) (c_check_income : Def P w c.K mg base "check_income" ["income"] 3 (spF c R_check_income)) (c_node_near : Def P w c.K mg base "node_near" ["nodes", "income"] 6 (spF c R_node_near)) :
    DefM P w c.K mg base c.C "__call__" ["self", "income"] 7 (spF c R_call) := S.ok fun f fd F => by
  refine F.ok sc_mcall (fun vs H Q E h => ?_) (fun cdv A outer s H vs Q E hr h => ?_)
  · obtain ⟨_, _, hk, ⟨p, _, rfl, _⟩, _⟩ := h
    exact hk.length
  · obtain ⟨_, _, hk, ⟨g, y, rfl, hl, hx, he, hs, h0, rfl⟩, k⟩ := h
    obtain ⟨v0, v1, rfl, r0, r1⟩ := KpAll.two hk
    refine ⟨_, (pss_cons (ps_expr (c_check_income.pe (hr.mono (by decide)) (by rfl) (pa_cons (pv 1) pa_nil)))
      (pss_one (ps_ret (pe_ix (ixT c.K rfl) (c_node_near.pe (hr.mono (by decide)) (by rfl) (pa_cons (peF c.K rfl (pv 0) rfl) (pa_cons (pv 1) pa_nil))) pe_int (fun _ _ => rfl))))), ?_⟩
    refine n_drop (ev_call (ea_cons (ev_var rfl r1) ea_nil) ⟨y, rfl, hs.hy, h0, rfl⟩) fun H1 e1 => ?_
    exact s_ret (ev_ixT (ev_call (ea_cons (ev_nodes T (ev_var rfl (r0.mono e1))) (ea_cons (ev_var rfl (r1.mono e1)) ea_nil)) ⟨g, y, rfl, hl, hx, he, hs, rfl⟩) ev_int (atI_nat (j := 0) rfl)) fun v H2 e2 r => k v H2 (e1.trans e2) r
end
end K66
set_option Elab.async false
set_option linter.all false
set_option autoImplicit false
set_option maxRecDepth 100000
set_option maxHeartbeats 4000000
/-! KEn: enumerate over tuples; t[::-1] of a tuple; loops over enumerate and zip. -/
namespace K66
open PySem PySem.Spec PyProof.Rows L2
open Evl (Ex EvT)
/-! ### enumerate(tuple): made -/
theorem en_new {u : Value} {ob : Obj} {W : Heap → Prop} (B : Begins u ob W) :
    Meets (Builtin.«enumerate.__new__» ⟨[.type "enumerate", u], []⟩) (fun _ R s => W s.heap ∧
      R (.ok (.ret (.ref (s.heap.push ob).objs.size))) { s with heap := (s.heap.push ob).push { cls := .type "enumerate", data := .fields #[.none, .bool false, .ref s.heap.objs.size, rawInt 0, .none, .none] } }) :=
  .of_wp fun prog w A R s h => by
    obtain ⟨hp, g, d, tk, os⟩ := s
    obtain ⟨hw, h⟩ := h
    have hsub := sub_enumerate
    have here : ∀ {A' : Around} {E Q : Value → Shared → Prop}, Q (.ref hp.objs.size) ⟨hp.push ob, g, d, tk, os⟩ → wpAny (model prog w) A' (pyIter u) Q E ⟨hp, g, d, tk, os⟩ := fun q => B.iter prog w _ _ ⟨hp, g, d, tk, os⟩ _ hw q
    wp_walk using here
    refine wpAny_stack_any fun st => wpAny_pure ?_
    split
    · rename_i c _ _ _ _ _
      cases (c == Value.type "enumerate") <;>
        (wp_walk using here
         exact ⟨_, rfl, h⟩)
    · wp_walk using here
      exact ⟨_, rfl, h⟩
theorem en_call {prog : Program} {w : World} {A : Around} {E : Value → Shared → Prop} {s : Shared} {u : Value} {ob : Obj} {W : Heap → Prop} {Q : Value → Shared → Prop} (B : Begins u ob W) (hw : W s.heap)
    (h : ∀ h', IsEnum h' (s.heap.objs.size + 1) s.heap.objs.size 0 .none → h'.get? s.heap.objs.size = some ob → (∀ b o, s.heap.get? b = some o → h'.get? b = some o) → Q (.ref (s.heap.objs.size + 1)) { s with heap := h' }) :
    wpAny (model prog w) A (call (.type "enumerate") [u]) Q E s := by
  refine callType_new F.called_enumerate (by decide) (F.typeCall_enumerate_1 _) (F.newCall_enumerate_1 _) (fun obj => F.args_object_init_2 obj _) F.entry_enumerate_new (en_new B) ⟨hw, ?_⟩
  have sz : (s.heap.push ob).objs.size = s.heap.objs.size + 1 := Heap.size_push ..
  have ie : IsEnum ((s.heap.push ob).push { cls := .type "enumerate", data := .fields #[.none, .bool false, .ref s.heap.objs.size, rawInt 0, .none, .none] }) (s.heap.objs.size + 1) s.heap.objs.size 0 .none := by
    have q := Heap.get?_push_size (s.heap.push ob) (o := { cls := .type "enumerate", data := .fields #[.none, .bool false, .ref s.heap.objs.size, rawInt 0, .none, .none] }) rfl
    rw [sz] at q
    exact q
  show _ ∧ _
  rw [sz]
  exact ⟨⟨_, ie, rfl⟩, h _ ie (Heap.get?_push_of_some _ (Heap.get?_push_size _ B.free)) fun b o x => Heap.get?_push_of_some _ (Heap.get?_push_of_some _ x)⟩
/-! ### walked -/
def ItT (K : Fg) (a : Addr) : It where
  go := fun i H => ∃ (xs : List V) (x : V), SqT K H a xs ∧ xs[i]? = some x
  yld := fun i H v H' => ∃ T x, v = .ref T ∧ H T = none ∧ H' = upd H T (.tup [.int (i : Nat), x]) ∧ ∀ xs, SqT K H a xs → xs[i]? = some x
  stop := fun i H => ∃ xs : List V, SqT K H a xs ∧ xs.length = i
theorem turn_ent {P : Program} {w : World} {K : Fg} {es : List Expr} {kk : Nat} {tp : Pos} (a e it : Addr) :
    Turn P w K (.Tuple es kk tp) (ItT K a) [e, it] e (fun i h => (∃ old, IsEnum h e it ((i : Nat) : Int) old) ∧ h.IsTupleIter it a i ∧ e ≠ it ∧ e ≠ a ∧ a ≠ it) where
  mem := List.mem_cons_self
  obj := fun i h st b hb => by
    obtain ⟨⟨old, he⟩, ⟨o, ho, hc, hd⟩, _⟩ := st
    rcases List.mem_cons.mp hb with z | z
    · subst z
      exact ⟨_, he, fun v q => nomatch q⟩
    · rw [List.mem_singleton.mp z]
      exact ⟨o, ho, fun v q => by rw [hd] at q; cases q⟩
  keep := fun i h h' st k => by
    obtain ⟨⟨old, he⟩, hi, hn⟩ := st
    exact ⟨⟨old, k e List.mem_cons_self _ he⟩, hi.at fun o q => k it (List.mem_cons_of_mem _ List.mem_cons_self) o q, hn⟩
  item := by
    intro X hP hw hK hc i pins s σ H E I hf st hg
    subst hP hw hK
    obtain ⟨⟨old, he⟩, hit, n1, n2, n3⟩ := st
    obtain ⟨xs, x, hq, hx⟩ := hg
    obtain ⟨its, rv, p, hz⟩ := I.tuple hq
    have hel : e < s.heap.objs.size := Heap.lt_size he
    have hil : it < s.heap.objs.size := by
      obtain ⟨_, q, _⟩ := hit
      exact Heap.lt_size q
    have hlt : i < its.toArray.size := by
      have l1 := (List.getElem?_eq_some_iff.mp hx).1
      have l2 := rv.length
      simp only [List.size_toArray]
      omega
    have D := Draws.tuple (prog := X.prog) (w := X.w) (A := X.A.in1) (I.ok.hd hc) it a n3 its.toArray
    refine wpAny_pyNext_enum_itemD D he ⟨hit, p⟩ hlt n1 (by simp [n1, n2]) fun u h' tk hu ho hs' hT hsz hk => ?_
    refine ⟨_, rfl, wpAny_letOwnedTupleGo_enum (s := { s with heap := h', toks := tk + 1 }) ho fun h'' he' sb => ?_⟩
    obtain ⟨w', hw', rw'⟩ := rv.get hx
    obtain rfl : w' = u := Option.some.inj (hw'.symm.trans (by simpa using hu))
    have at2 : h''.get? s.heap.objs.size = some { cls := .type "tuple", data := .seq #[.int i tk, w'] } := (sb.2 _ (Nat.ne_of_gt hel)).trans hT
    have new : ObjOk X.prog X.w (upd H s.heap.objs.size (.tup [.int (i : Nat), x])) h'' s.heap.objs.size (.tup [.int (i : Nat), x]) :=
      ⟨(by decide : 2 ≤ sizeLine), [.int i tk, w'], .cons ⟨_, rfl⟩ (.cons rw' .nil), ⟨_, at2, rfl, _, rfl⟩⟩
    have kept : ∀ b ob, b ∉ [e, it] → s.heap.get? b = some ob → h''.get? b = some ob := fun b ob hb q => by
      have b1 : b ≠ e := fun z => hb (by rw [z]; exact List.mem_cons_self)
      have b2 : b ≠ it := fun z => hb (by rw [z]; exact List.mem_cons_of_mem _ List.mem_cons_self)
      exact (sb.2 b b1).trans (hk b ob b1 b2 q)
    have I1 : Inv X pins σ (upd H s.heap.objs.size (.tup [.int (i : Nat), x])) { s with heap := h'', toks := tk + 1 } := I.turnedNew (ch := [e, it]) kept hf (Nat.le_refl _) new
    refine ⟨.ref s.heap.objs.size, _, I1, rfl, ⟨_, x, rfl, I.hok.fresh (Nat.le_refl _), rfl, fun ys hy => by rw [I.tuple_inj hy hq]; exact hx⟩, ⟨⟨w', ?_⟩, hs'.1.at fun o q => (sb.2 it (Ne.symm n1)).trans q, n1, n2, n3⟩, fun b hb => ?_⟩
    · rw [Int.natCast_add]
      exact he'
    · have lb : b < s.heap.objs.size := by
        rcases List.mem_cons.mp hb with z | z
        · rw [z]; exact hel
        · rw [List.mem_singleton.mp z]; exact hil
      rw [upd_ne (Nat.ne_of_lt lb)]
      exact (hf b hb).1
  done := by
    intro X hP hw hK hc i pins s σ H E I hf st hg
    subst hP hw hK
    obtain ⟨⟨old, he⟩, hit, n1, n2, n3⟩ := st
    obtain ⟨xs, hq, hx⟩ := hg
    obtain ⟨its, rv, p, hz⟩ := I.tuple hq
    obtain ⟨f0, f1, f2, f3, f4, f5⟩ := hf it (List.mem_cons_of_mem _ List.mem_cons_self)
    have hn : its.toArray.size = i := by
      rw [List.size_toArray, ← rv.length, hx]
    have D := Draws.tuple (prog := X.prog) (w := X.w) (A := X.A.in1) (I.ok.hd hc) it a n3 its.toArray
    exact wpAny_pyNext_enum_endD D he ⟨by rw [hn]; exact hit, p⟩ fun h' eb => ⟨rfl, I.turned (t' := s.toks) (fun b o hb q => eb b o hb q) f0 f1 f3 f4 f5⟩
  self := fun A i s Q E st h => by
    obtain ⟨⟨_, he⟩, _⟩ := st
    exact wpAny_pyIter_enum he h
def iEnT (K : Fg) (ta : TA) : TI := fun σ H R => ta σ H fun vs H1 => ∃ a xs, vs = [.ref a] ∧ SqT K H1 a xs ∧ R (ItT K a) H1
theorem pi_enT {X : Cx} {e : Expr} {ta : TA} {p pos tp : Pos} {es : List Expr} {kk : Nat} (hg : Gl X "enumerate") (hm : X.mg "enumerate" = none) (ha : PA X [e] ta) (hs : starEach [e] X.env = [(false, eval e X.env)] := by rfl) :
    PI X (.Tuple es kk tp) (.Call (.Name "enumerate" p) [e] [] pos) (iEnT X.K ta) := by
  refine ⟨fun pins s σ H R I h => Call_ (ld_blt I hg hm boot_enumerate (PyProof.Rows.callWith_type1 (thn (ha.run pos pins s σ H _ I h) fun us s1 q1 => ?_) hs rfl))⟩
  obtain ⟨vs, H1, I1, r1, a, xs, rfl, hq, q⟩ := q1
  cases r1 with
  | cons r rr =>
    cases rr
    cases r
    obtain ⟨its, rv, tu, hz⟩ := I1.tuple hq
    refine en_call (begins_tuple a its.toArray) (show s1.heap.IsTuple a its.toArray from tu) fun h' he hit hk => wpAny_pyIter_enum he ?_
    have I2 : Inv X pins σ H1 { s1 with heap := h' } := I1.kept (t' := s1.toks) hk
    have la : a < s1.heap.objs.size := by
      obtain ⟨o, ho, _⟩ := tu
      exact Heap.lt_size ho
    refine ⟨s1.heap.objs.size + 1, [s1.heap.objs.size + 1, s1.heap.objs.size], _, _, H1, rfl, I2, turn_ent a (s1.heap.objs.size + 1) s1.heap.objs.size, ⟨⟨.none, he⟩, ⟨_, hit, rfl, rfl⟩, Nat.succ_ne_self _, Nat.ne_of_gt (Nat.lt_succ_of_lt la), Nat.ne_of_lt la⟩, fun b hb => ?_, q⟩
    have lb : s1.heap.objs.size ≤ b := by
      rcases List.mem_cons.mp hb with z | z
      · rw [z]; exact Nat.le_succ _
      · rw [List.mem_singleton.mp z]; exact Nat.le_refl _
    exact I1.fpOk lb (I1.hok.fresh lb)
theorem piEnT {X : Cx} {e : Expr} {ta : TA} {p pos tp : Pos} {es : List Expr} {kk : Nat} (K : Fg) (h : X.K = K) (hg : Gl X "enumerate") (hm : X.mg "enumerate" = none) (ha : PA X [e] ta) (hs : starEach [e] X.env = [(false, eval e X.env)] := by rfl) :
    PI X (.Tuple es kk tp) (.Call (.Name "enumerate" p) [e] [] pos) (iEnT K ta) := h ▸ pi_enT hg hm ha hs
theorem piEnL {X : Cx} {e : Expr} {ta : TA} {p pos tp : Pos} {es : List Expr} {kk : Nat} (K : Fg) (h : X.K = K) (hg : Gl X "enumerate") (hm : X.mg "enumerate" = none) (ha : PA X [e] ta) (hs : starEach [e] X.env = [(false, eval e X.env)] := by rfl) :
    PI X (.Tuple es kk tp) (.Call (.Name "enumerate" p) [e] [] pos) (iEnum K ta) := h ▸ pi_enum hg hm ha hs
section
variable {α : Type} {c : Cv} {σ : L2.St} {H : Hp} {tl : TE} {i j : Nat} {D : Ends} {tu tw : TS}
/-- for i, x in enumerate(t): the names at p and q -/
theorem s_forEnT {p q : Nat} (em : α → PyData) (ns : List α) (h : EvK c tl σ H (.d (.tuple (ns.map em))))
    (k : ∀ H1, Ex H H1 → ∃ Pv : Nat → L2.St → Hp → Prop, Pv 0 σ H1 ∧ (∀ j σ' H', Pv j σ' H' → Tx H1 H') ∧
      (∀ j a v σ' H' H2, ns[j]? = some a → Pv j σ' H' → Ex H' H2 → Fp c.K H2 v (em a) → tu { D with nx := Pv (j + 1), ct := Pv (j + 1), bk := D.nx } ((σ'.set p (some (.int (j : Nat)))).set q (some v)) H2) ∧
      ∀ σ' H', Pv ns.length σ' H' → D.nx σ' H') : tFor (iEnT c.K (tCons tl tNil)) (gTup c.K 2 (gCons (gName p) (gCons (gName q) gNil))) tu D σ H := h H (Ex.refl H) _ fun x H1 e1 r => by
  obtain ⟨a, xs, rfl, hs, hx⟩ := Fp.tupE r
  obtain ⟨Pv, h0, hl, hs', hd⟩ := k H1 e1
  have hn : xs.length = ns.length := by rw [hx.length, List.length_map]
  refine ⟨a, xs, rfl, hs, fun i m σ' H' => m = ns.length - i ∧ i ≤ ns.length ∧ Pv i σ' H', ⟨ns.length, by simp, Nat.zero_le _, h0⟩, ?_⟩
  rintro i m σ' H' ⟨rfl, hi, hp⟩
  have hsq := tx_seq (hl i σ' H' hp) hs
  by_cases hlt : i < ns.length
  · refine .inr ⟨⟨xs, xs[i]'(by omega), hsq, by simp⟩, Pv (i + 1), fun σ2 H2 p2 => ⟨ns.length - (i + 1), by omega, rfl, hlt, p2⟩, ?_⟩
    rintro v H2 ⟨Tn, x, rfl, hTn, rfl, hx2⟩
    have hxi := hx2 xs hsq
    obtain ⟨d, hd', rd⟩ := hx.of_at hxi
    rw [List.getElem?_map, List.getElem?_eq_getElem hlt] at hd'
    obtain rfl : em ns[i] = d := Option.some.inj hd'
    have ex : Ex H' (upd H' Tn (.tup [.int (i : Nat), x])) := Ex.new hTn
    exact ⟨Tn, _, rfl, SqT.of upd_same, rfl, _, _, rfl, _, _, rfl, rfl, hs' i ns[i] x σ' H' _ (List.getElem?_eq_getElem hlt) hp ex ((rd.mono (hl i σ' H' hp)).mono (Tx.of ex))⟩
  · have e : i = ns.length := by omega
    subst e
    exact .inl ⟨⟨xs, hsq, hn⟩, hd σ' H' hp⟩
theorem n_forEnT {p q : Nat} (em : α → PyData) (ns : List α) (h : EvK c tl σ H (.d (.tuple (ns.map em))))
    (k : ∀ H1, Ex H H1 → ∃ Pv : Nat → L2.St → Hp → Prop, Pv 0 σ H1 ∧ (∀ j σ' H', Pv j σ' H' → Tx H1 H') ∧
      (∀ j a v σ' H' H2, ns[j]? = some a → Pv j σ' H' → Ex H' H2 → Fp c.K H2 v (em a) → tu { D with nx := Pv (j + 1), ct := Pv (j + 1), bk := tw D } ((σ'.set p (some (.int (j : Nat)))).set q (some v)) H2) ∧
      ∀ σ' H', Pv ns.length σ' H' → tw D σ' H') : tSeq (tFor (iEnT c.K (tCons tl tNil)) (gTup c.K 2 (gCons (gName p) (gCons (gName q) gNil))) tu) tw D σ H := s_forEnT (D := { D with nx := tw D }) em ns h k
/-- .. over a list that stays as it is -/
theorem s_forEnL {p q : Nat} (em : α → PyData) (ns : List α) (h : EvK c tl σ H (.l (ns.map em)))
    (k : ∀ a vs H1, Ex H H1 → H1 a = some (.lst vs) → FpAll c.K H1 vs (ns.map em) → ∃ Pv : Nat → L2.St → Hp → Prop, Pv 0 σ H1 ∧ (∀ j σ' H', Pv j σ' H' → Tx H1 H' ∧ H' a = some (.lst vs)) ∧
      (∀ j a v σ' H' H2, ns[j]? = some a → Pv j σ' H' → Ex H' H2 → Fp c.K H2 v (em a) → tu { D with nx := Pv (j + 1), ct := Pv (j + 1), bk := D.nx } ((σ'.set p (some (.int (j : Nat)))).set q (some v)) H2) ∧
      ∀ σ' H', Pv ns.length σ' H' → D.nx σ' H') : tFor (iEnum c.K (tCons tl tNil)) (gTup c.K 2 (gCons (gName p) (gCons (gName q) gNil))) tu D σ H := h H (Ex.refl H) _ fun x H1 e1 r => by
  obtain ⟨a, xs, rfl, hs, hx⟩ := (show LstR c H1 x (ns.map em) from r)
  obtain ⟨Pv, h0, hl, hs', hd⟩ := k a xs H1 e1 hs hx
  have hn : xs.length = ns.length := by rw [hx.length, List.length_map]
  refine ⟨a, xs, rfl, SqL.of hs, fun i m σ' H' => m = ns.length - i ∧ i ≤ ns.length ∧ Pv i σ' H', ⟨ns.length, by simp, Nat.zero_le _, h0⟩, ?_⟩
  rintro i m σ' H' ⟨rfl, hi, hp⟩
  have hsq : SqL c.K H' a xs := SqL.of (hl i σ' H' hp).2
  by_cases hlt : i < ns.length
  · refine .inr ⟨⟨xs, xs[i]'(by omega), hsq, by simp⟩, Pv (i + 1), fun σ2 H2 p2 => ⟨ns.length - (i + 1), by omega, rfl, hlt, p2⟩, ?_⟩
    rintro v H2 ⟨Tn, x, rfl, hTn, rfl, hx2⟩
    have hxi := hx2 xs hsq
    obtain ⟨d, hd', rd⟩ := hx.of_at hxi
    rw [List.getElem?_map, List.getElem?_eq_getElem hlt] at hd'
    obtain rfl : em ns[i] = d := Option.some.inj hd'
    have ex : Ex H' (upd H' Tn (.tup [.int (i : Nat), x])) := Ex.new hTn
    exact ⟨Tn, _, rfl, SqT.of upd_same, rfl, _, _, rfl, _, _, rfl, rfl, hs' i ns[i] x σ' H' _ (List.getElem?_eq_getElem hlt) hp ex ((rd.mono (hl i σ' H' hp).1).mono (Tx.of ex))⟩
  · have e : i = ns.length := by omega
    subst e
    exact .inl ⟨⟨xs, hsq, by omega⟩, hd σ' H' hp⟩
theorem n_forEnL {p q : Nat} (em : α → PyData) (ns : List α) (h : EvK c tl σ H (.l (ns.map em)))
    (k : ∀ a vs H1, Ex H H1 → H1 a = some (.lst vs) → FpAll c.K H1 vs (ns.map em) → ∃ Pv : Nat → L2.St → Hp → Prop, Pv 0 σ H1 ∧ (∀ j σ' H', Pv j σ' H' → Tx H1 H' ∧ H' a = some (.lst vs)) ∧
      (∀ j a v σ' H' H2, ns[j]? = some a → Pv j σ' H' → Ex H' H2 → Fp c.K H2 v (em a) → tu { D with nx := Pv (j + 1), ct := Pv (j + 1), bk := tw D } ((σ'.set p (some (.int (j : Nat)))).set q (some v)) H2) ∧
      ∀ σ' H', Pv ns.length σ' H' → tw D σ' H') : tSeq (tFor (iEnum c.K (tCons tl tNil)) (gTup c.K 2 (gCons (gName p) (gCons (gName q) gNil))) tu) tw D σ H := s_forEnL (D := { D with nx := tw D }) em ns h k
end
end K66
set_option Elab.async false
set_option linter.all false
set_option autoImplicit false
set_option maxRecDepth 100000
set_option maxHeartbeats 4000000
/-! KRev: t[::-1] of a tuple; loops over zip of two lists; l += l2. -/
namespace K66
open PySem PySem.Spec PyProof.Rows L2
open Evl (Ex EvT)
section
variable {prog : Program} {w : World} {A : Around} {E : Value → Shared → Prop} {s : Shared}
theorem back_applied {sl : Addr} {k : Tok} {n : Nat} {Q : Int × Int × Nat → Shared → Prop} (hs : s.heap.IsSliceOf sl .none .none (.int (-1) k)) (h : Q ((n : Int) - 1, -1, n) s) : wpAny (model prog w) A (Builtin.Slice.sliceApplied (.ref sl) (pure (n : Int))) Q E s := by
  obtain ⟨os, hos, hcs, hds⟩ := id hs
  unfold Builtin.Slice.sliceApplied Builtin.Slice.sliceFields
  refine wpAny_bind (wpAny_bind (wpAny_field hos hds (x := .none) rfl (wpAny_bind (wpAny_field hos hds (x := .none) rfl (wpAny_bind (wpAny_field hos hds (x := .int (-1) k) rfl (wpAny_pure ?_)))))))
  refine wpAny_bind (HT.slicePart_ (o := some (-1)) (.int (-1) k) ?_)
  show wpAny _ _ (if ((-1 : Int) == 0) = true then _ else _) _ _ s
  rw [if_neg (by decide)]
  refine wpAny_bind (HT.slicePart_ (o := none) .none (wpAny_bind (HT.slicePart_ (o := none) .none (wpAny_bind (wpAny_pure ?_)))))
  have e1 : Builtin.Slice.sliceAdjust none none (-1) (n : Int) = ((n : Int) - 1, -1) := rfl
  have e2 : Builtin.Slice.slicePlaces ((n : Int) - 1) (-1) (-1) = n := by
    unfold Builtin.Slice.slicePlaces
    rw [if_neg (by decide)]
    by_cases hn : (n : Int) - 1 > -1
    · rw [if_pos hn, show (- -1 : Int) = 1 from rfl, Int.ediv_one]
      omega
    · rw [if_neg hn]
      omega
  show wpAny _ _ (match Builtin.Slice.sliceAdjust none none (-1) (n : Int) with | (a, b) => pure (a, (-1 : Int), Builtin.Slice.slicePlaces a b (-1))) _ _ s
  rw [e1]
  show wpAny _ _ (pure ((n : Int) - 1, (-1 : Int), Builtin.Slice.slicePlaces ((n : Int) - 1) (-1) (-1))) _ _ s
  rw [e2]
  exact wpAny_pure h
theorem fm_congr {α β : Type} {f g : α → Option β} : ∀ {l : List α}, (∀ a ∈ l, f a = g a) → l.filterMap f = l.filterMap g
  | [], _ => rfl
  | a :: l, h => by
    rw [List.filterMap_cons, List.filterMap_cons, h a List.mem_cons_self, fm_congr fun b hb => h b (List.mem_cons_of_mem _ hb)]
theorem back_pick (xs : Array Value) : ((List.range xs.size).filterMap fun (m : Nat) => xs[(((xs.size : Int) - 1) + (m : Int) * (-1)).toNat]?).toArray = xs.toList.reverse.toArray := by
  have e : ((List.range xs.size).filterMap fun (m : Nat) => xs[(((xs.size : Int) - 1) + (m : Int) * (-1)).toNat]?) = ((List.range xs.size).map fun k => xs.size - 1 - k).filterMap (xs[·]?) := by
    rw [List.filterMap_map]
    refine fm_congr fun m hm => ?_
    have q := List.mem_range.mp hm
    show xs[_]? = xs[xs.size - 1 - m]?
    congr 1
    omega
  rw [e, PySem.W.krv_range, List.filterMap_reverse, PySem.W.krv_all]
theorem back_item {t sl : Addr} {k : Tok} {items : Array Value} {Q : Value → Shared → Prop} (ht : IsTup s.heap t items) (hs : s.heap.IsSliceOf sl .none .none (.int (-1) k)) (hz : items.size ≤ sizeLine)
    (h : Q (.ref s.heap.objs.size) { s with heap := s.heap.push { cls := .type "tuple", data := .seq items.toList.reverse.toArray } }) : wpAny (model prog w) A (getItem (.ref t) (.ref sl)) Q E s := by
  obtain ⟨os, hos, hcs, hds⟩ := id hs
  have isl : s.TypeIs (.ref sl) "slice" := ⟨os, hos, hcs⟩
  have fits : sizeOk (.seq items.toList.reverse.toArray) := by
    show items.toList.reverse.toArray.size ≤ sizeLine
    rw [List.size_toArray, List.length_reverse, Array.length_toList]
    exact hz
  unfold getItem
  try with_reducible refine wpAny_holding ?_
  first | refine wpAny_bind (wpAny_pure ?_) | skip
  refine wpAny_bind (wpAny_sequenceKey ht.typeIs (by decide) ?_)
  refine wpAny_bind (wpAny_callSpecial?_slot (name := Str.ofString "__getitem__") ht.typeIs slot_tuple_getitem (wpAny_call_entry slot_tuple_getitem ht.typeIs entry_tuple_getitem ?_ (args_tuple_getitem _ _)))
  show wpAny _ _ (Builtin.Tuple.tupleItemsOf (.ref t) >>= _) _ _ s
  refine wpAny_bind (tupleItemsOf_ ht (wpAny_bind (wpAny_typeOf isl ?_)))
  rw [if_pos (by decide)]
  refine wpAny_bind (back_applied hs ?_)
  show wpAny _ _ (if (((items.size : Int) - 1) == 0 && (-1 : Int) == 1 && items.size == items.size) = true then _ else _) _ _ s
  rw [if_neg (by simp), back_pick]
  first
    | exact wpAny_bind (m := Builtin.Tuple.tupleExact _) (wpAny_newObj_type (wpAny_pure ⟨_, rfl, wpAny_pure h⟩) fits)
    | exact wpAny_bind (m := Builtin.Tuple.tupleExact _) (wpAny_newObj_type (wpAny_bind (wpAny_pure (wpAny_pure ⟨_, rfl, wpAny_pure h⟩))) fits)
    | exact wpAny_bind (wpAny_bind (m := Builtin.Tuple.tupleExact _) (wpAny_newObj_type (wpAny_pure (wpAny_pure ⟨_, rfl, wpAny_pure h⟩)) fits))
    | exact wpAny_bind (wpAny_bind (m := Builtin.Tuple.tupleExact _) (wpAny_newObj_type (wpAny_pure ⟨_, rfl, wpAny_pure h⟩) fits))
end
def tRevT (K : Fg) (te : TE) : TE := fun σ H Q => te σ H fun x H1 => ∃ a xs, x = .ref a ∧ SqT K H1 a xs ∧ ∀ p, H1 p = none → Q (.ref p) (upd H1 p (.tup xs.reverse))
theorem pe_revT {X : Cx} {e : Expr} {te : TE} {k : Nat} {p1 p2 p3 pos : Pos} (K : Fg) (hK : X.K = K) (he : PE X e te) : PE X (.Subscript e (.Slice none none (some (.UnaryOp .USub (.Constant (.int 1) k p1) p2)) p3) pos) (tRevT K te) := by
  subst hK
  refine ⟨fun pins s σ H Q I h => Subscript_ (thn (he.run pins s σ H _ I h) fun v s1 q1 => ?_)⟩
  obtain ⟨x, H1, I1, r1, a, xs, rfl, hx, q⟩ := q1
  cases r1
  have step : PO X (some (.UnaryOp .USub (.Constant (.int 1) k p1) p2)) (tPart (tUn (rU fun i => .int (-i)) (tC (.int 1)))) := po_some (pe_un un_neg pe_int)
  refine wpAny_Slice (thn (po_none.run pins s1 σ H1 (fun o H2 => o = none ∧ H2 = H1) I1 ⟨rfl, rfl⟩) fun vl s2 z2 => ?_)
  obtain ⟨l, H2, I2, pl, rfl, rfl⟩ := z2
  refine thn (po_none.run pins s2 σ H2 (fun o H3 => o = none ∧ H3 = H2) I2 ⟨rfl, rfl⟩) fun vu s3 z3 => ?_
  obtain ⟨u, H3, I3, pu, rfl, rfl⟩ := z3
  refine thn (step.run pins s3 σ H3 (fun o H4 => o = some (-1) ∧ H4 = H3) I3 ⟨1, rfl, -1, rfl, rfl, rfl⟩) fun vs s4 z4 => ?_
  obtain ⟨o, H4, I4, ps, rfl, rfl⟩ := z4
  cases pl
  cases pu
  cases ps with
  | int i tk =>
    have I5 : Inv X pins σ H4 { s4 with heap := s4.heap.push { cls := .type "slice", data := .fields #[.none, .none, .int (-1) tk] } } := I4.kept (t' := s4.toks) fun b ob z => Heap.get?_push_of_some _ z
    obtain ⟨its, r, ht, hz⟩ := I5.tuple hx
    have hlen := r.length
    refine tail_any (ops := [.ref a, .ref s4.heap.objs.size]) ht.typeIs (PyProof.Rows.slot_tuple_getitem.lookup) ?_ (by with_unfolding_all rfl)
    refine back_item (k := tk) ht (Heap.IsSliceOf.new _ _ _ _) (by rw [List.size_toArray]; omega) ?_
    refine ⟨.ref _, _, I5.laid (t' := s4.toks) (o := .tup xs.reverse) (fun b ob z => Heap.get?_push_of_some _ z) (Nat.le_refl _) ?_, rfl, q _ (I5.hok.fresh (Nat.le_refl _))⟩
    exact ⟨by rw [List.length_reverse]; exact hz, _, r.reverse, IsTup.new _ _⟩
section
variable {α : Type} {c : Cv} {σ : L2.St} {H : Hp} {te ta tb : TE} {D : Ends} {tu tw : TS}
theorem ev_revT {ds : List PyData} (h : EvK c te σ H (.d (.tuple ds))) : EvK c (tRevT c.K te) σ H (.d (.tuple ds.reverse)) := fun H1 e Q q =>
  h H1 e _ fun x H2 e2 r => by
    obtain ⟨a, xs, rfl, hs, hx⟩ := Fp.tupE r
    exact ⟨a, xs, rfl, hs, fun p hp => q _ _ (e2.trans (Ex.new hp)) (.tup (SqT.of upd_same) (hx.mono (Tx.of (Ex.new hp))).reverse)⟩
/-- l + l2, both lists of data -/
theorem ef_cat {ds es : List PyData} (ha : EvK c ta σ H (.l ds)) (hb : EvK c tb σ H (.l es)) (hz : ds.length + es.length ≤ 100000) : EvF c (tOp rCat ta tb) σ H (ds ++ es) := fun H1 e Q q =>
  ha H1 e _ fun x H2 e2 rx => hb H2 (e.trans e2) _ fun y H3 e3 ry => by
    obtain ⟨a, vs, rfl, h1, h2⟩ := (show LstR c H2 x ds from rx)
    obtain ⟨b, ws, rfl, h3, h4⟩ := (show LstR c H3 y es from ry)
    refine ⟨a, b, vs, ws, rfl, rfl, e3 _ _ h1, h3, ?_, fun p hp => ?_⟩
    · rw [h2.length, h4.length]
      exact Nat.le_trans hz (by decide)
    · exact q p _ _ (Evl.fresh_back (e2.trans e3) hp) ((e2.trans e3).trans (Ex.new hp)) upd_same (((h2.mono (Tx.of e3)).append h4).mono (Tx.of (Ex.new hp)))
/-- t + t2, neither of them empty -/
theorem ev_catT {ds es : List PyData} (ha : EvK c ta σ H (.d (.tuple ds))) (hb : EvK c tb σ H (.d (.tuple es))) (n1 : ds ≠ []) (n2 : es ≠ []) (hz : ds.length + es.length ≤ 100000) : EvK c (tOp (rCatT c.K) ta tb) σ H (.d (.tuple (ds ++ es))) :=
  ev_op ha hb fun H1 _ x y rx ry Q q => by
    obtain ⟨a, xs, rfl, h1, h2⟩ := Fp.tupE rx
    obtain ⟨b, ys, rfl, h3, h4⟩ := Fp.tupE ry
    have l1 := h2.length
    have l2 := h4.length
    refine ⟨a, b, xs, ys, rfl, rfl, h1, h3, ?_, ?_, fun z => ?_, fun _ p hp => ?_⟩
    · intro z
      rw [z] at l1
      exact n1 (List.length_eq_zero_iff.mp l1.symm)
    · rw [l1, l2]
      exact Nat.le_trans hz (by decide)
    · rw [z] at l2
      exact absurd (List.length_eq_zero_iff.mp l2.symm) n2
    · exact q _ _ (Ex.new hp) (.tup (SqT.of upd_same) ((h2.append h4).mono (Tx.of (Ex.new hp))))
theorem any_num (x : Rat) (qs : List Rat) : ((qs.map fun q => numD q).any fun z => PyData.eqv z (numD x)) = decide (x ∈ qs) := by
  induction qs with
  | nil => rfl
  | cons a l ih =>
    rw [List.map_cons, List.any_cons, ih, eqv_num]
    simp only [List.mem_cons, Bool.decide_or, eq_comm]
/-- x not in l, numbers -/
theorem ev_notIn {x : Rat} {qs : List Rat} (ha : EvK c ta σ H (.d (numD x))) (hb : EvK c tb σ H (.l (qs.map fun q => numD q))) (h : SeqAt.shaped (.list (qs.map fun q => numD q)) = true) : EvK c (tOp (rNotInD c.K) ta tb) σ H (.d (.bool (!decide (x ∈ qs)))) :=
  ev_op ha hb fun H1 _ x' y rx ry Q q => by
    refine ⟨numD x, qs.map fun q => numD q, Fp.dp rx, (KDat.l _).dp ry, rfl, h, q _ H1 (Ex.refl H1) ?_⟩
    have e := any_num x qs
    rw [e]
    exact .bl _
end
end K66
set_option Elab.async false
set_option linter.all false
set_option autoImplicit false
set_option maxRecDepth 100000
set_option maxHeartbeats 4000000
/-! KF: parallel assignments of fresh lists; a middle state ahead of what follows. -/
namespace K66
open PySem PySem.Spec PyProof.Rows L2
open Evl (Ex EvT)
section
variable {c : Cv} {σ : L2.St} {H : Hp} {ta tb te : TE} {kd : KD} {D : Ends} {t tu tw : TS} {i j m : Nat}
theorem n_parF {ds : List PyData} (h1 : EvF c ta σ H ds) (h2 : EvK c tb σ H kd) (k : ∀ p vs w H1, H p = none → Ex H H1 → H1 p = some (.lst vs) → FpAll c.K H1 vs ds → Kp c H1 w kd → tw D ((σ.set i (some (.ref p))).set j (some w)) H1) :
    tSeq (tPar i j (tCons ta (tCons tb tNil))) tw D σ H := h1 H (Ex.refl H) _ fun p vs H1 hp e hl r => h2 H1 e _ fun w H2 e2 rw => by
  exact ⟨_, _, rfl, k p vs w H2 hp (e.trans e2) (e2 _ _ hl) (r.mono (Tx.of e2)) rw⟩
theorem n_parG {ds : List PyData} (h1 : EvK c ta σ H kd) (h2 : EvF c tb σ H ds) (k : ∀ w p vs H1, H p = none → Ex H H1 → H1 p = some (.lst vs) → FpAll c.K H1 vs ds → Kp c H1 w kd → tw D ((σ.set i (some w)).set j (some (.ref p))) H1) :
    tSeq (tPar i j (tCons ta (tCons tb tNil))) tw D σ H := h1 H (Ex.refl H) _ fun w H1 e rw => h2 H1 e _ fun p vs H2 hp e2 hl r => by
  exact ⟨_, _, rfl, k w p vs H2 (Evl.fresh_back e hp) (e.trans e2) hl r (rw.mono e2)⟩
theorem n_par3 {a : TA} {k1 k2 k3 : KD} (h : EvA c a σ H [k1, k2, k3]) (k : ∀ u v w H1, Ex H H1 → Kp c H1 u k1 → Kp c H1 v k2 → Kp c H1 w k3 → tw D (((σ.set i (some u)).set j (some v)).set m (some w)) H1) : tSeq (tPar3 i j m a) tw D σ H :=
  h H (Ex.refl H) _ fun vs H1 e r => by
    obtain ⟨u, v, w, rfl, hu, hv, hw⟩ := KpAll.three r
    exact ⟨u, v, w, rfl, k u v w H1 e hu hv hw⟩
/-- what follows is told of first, then used -/
theorem n_mid (M : L2.St → Hp → Prop) (fin : ∀ σ' H', M σ' H' → tw D σ' H') (h : (∀ σ' H', M σ' H' → tw D σ' H') → tSeq t tw D σ H) : tSeq t tw D σ H := h fin
end
theorem drop_cons {α : Type} {l : List α} {j : Nat} {a : α} (h : l[j]? = some a) : l.drop j = a :: l.drop (j + 1) := by
  obtain ⟨hj, e⟩ := List.getElem?_eq_some_iff.mp h
  rw [← e]
  exact List.drop_eq_getElem_cons hj
theorem eqv_int (i j : Int) : PyData.eqv (.int i) (.int j) = decide (i = j) := by
  simp only [PyData.eqv]
  by_cases h : i = j <;> simp [h]
theorem piZip {X : Cx} {e e2 : Expr} {ta : TA} {p pos tpos : Pos} {elts : List Expr} {kk : Nat} (K : Fg) (h : X.K = K) (hg : Gl X "zip") (hm : X.mg "zip" = none) (ha : PA X [e, e2] ta)
    (hs : starEach [e, e2] X.env = (false, eval e X.env) :: starEach [e2] X.env := by rfl) (hpl : (backTo pos (starEach [e2] X.env)).any (·.1) = false := by rfl) :
    PI X (.Tuple elts kk tpos) (.Call (.Name "zip" p) [e, e2] [] pos) (RZ.iZipA K ta) := h ▸ RZ.pi_zipA hg hm ha hs hpl
section
variable {c : Cv} {σ : L2.St} {H : Hp} {ta tb te : TE} {D : Ends} {tu : TS} {p q : Nat}
/-- for x, y in zip(l, m), two lists that were made for it -/
theorem s_forZip (ds es : List PyData) (hl : ds.length = es.length) (h1 : EvF c ta σ H ds) (h2 : EvF c tb σ H es)
    (k : ∀ H1, Ex H H1 → ∃ Pv : Nat → L2.St → Hp → Prop, Pv 0 σ H1 ∧ (∀ j σ' H', Pv j σ' H' → Ex H1 H') ∧
      (∀ j d e v w σ' H' H2, ds[j]? = some d → es[j]? = some e → Pv j σ' H' → Ex H' H2 → Fp c.K H2 v d → Fp c.K H2 w e → tu { D with nx := Pv (j + 1), ct := Pv (j + 1), bk := D.nx } ((σ'.set p (some v)).set q (some w)) H2) ∧
      ∀ σ' H', Pv ds.length σ' H' → D.nx σ' H') : tFor (RZ.iZipA c.K (tCons ta (tCons tb tNil))) (gTup c.K 2 (gCons (gName p) (gCons (gName q) gNil))) tu D σ H := h1 H (Ex.refl H) _ fun a xs H1 hn1 e1 ha hx => h2 H1 e1 _ fun b ys H2 hn2 e2 hb hy => by
  obtain ⟨Pv, h0, hq, hs, hd⟩ := k H2 (e1.trans e2)
  have ha := e2 _ _ ha
  have hx := hx.mono (Tx.of e2)
  have l1 := hx.length
  have l2 := hy.length
  refine ⟨a, b, xs, ys, rfl, .inl ⟨SqL.of ha, SqL.of hb, RZ.for_zipL (by omega) Pv h0 (fun i σ' H' P => ⟨SqL.of (hq i σ' H' P _ _ ha), SqL.of (hq i σ' H' P _ _ hb)⟩) ?_ (by rw [l1]; exact hd)⟩⟩
  intro i x y Tn σ' H' ex ey P hT
  obtain ⟨d, ed, rd⟩ := hx.of_at ex
  obtain ⟨e, ee, re⟩ := hy.of_at ey
  have ext : Ex H' (upd H' Tn (.tup [x, y])) := Ex.new hT
  have tx := Tx.of ((hq i σ' H' P).trans ext)
  exact ⟨Tn, _, rfl, SqT.of upd_same, rfl, _, _, rfl, _, _, rfl, rfl, hs i d e x y σ' H' _ ed ee P ext (rd.mono tx) (re.mono tx)⟩
/-- l += m, l a list of the def's own -/
theorem s_ext {l : Addr} {vs : List V} {ds es : List PyData} {i : Nat} (hl : H l = some (.lst vs)) (hd : FpAll c.K H vs ds) (hz : ds.length + es.length < 100000) (hi : σ[i]? = some (some (.ref l))) (h : EvF c te σ H es)
    (k : ∀ ws H1, Ex H H1 → FpAll c.K (upd H1 l (.lst (vs ++ ws))) (vs ++ ws) (ds ++ es) → D.nx (σ.set i (some (.ref l))) (upd H1 l (.lst (vs ++ ws)))) : tAug i te rExt2 D σ H := by
  refine ⟨.ref l, hi, ?_⟩
  refine h H (Ex.refl H) _ fun b ws H1 hn e hb hw => ?_
  have hl1 := e l _ hl
  have tx : Tx H1 (upd H1 l (.lst (vs ++ ws))) := Tx.upd hl1
  refine ⟨l, b, vs, ws, rfl, rfl, hl1, hb, ?_, k ws H1 e (((hd.mono (Tx.of e)).mono tx).append (hw.mono tx))⟩
  rw [hd.length, hw.length]
  exact Nat.le_trans (Nat.le_of_lt hz) (by decide)
theorem n_ext {tw : TS} {l : Addr} {vs : List V} {ds es : List PyData} {i : Nat} (hl : H l = some (.lst vs)) (hd : FpAll c.K H vs ds) (hz : ds.length + es.length < 100000) (hi : σ[i]? = some (some (.ref l))) (h : EvF c te σ H es)
    (k : ∀ ws H1, Ex H H1 → FpAll c.K (upd H1 l (.lst (vs ++ ws))) (vs ++ ws) (ds ++ es) → tw D (σ.set i (some (.ref l))) (upd H1 l (.lst (vs ++ ws)))) : tSeq (tAug i te rExt2) tw D σ H := s_ext (D := { D with nx := tw D }) hl hd hz hi h k
end
section
variable {α : Type} {c : Cv} {σ : L2.St} {H : Hp} {D : Ends} {tu tw : TS} {g : TG} {i : Nat}
/-- for x in l, l a name's list -/
theorem s_forLv (em : α → PyData) (ns : List α) {a : Addr} {vs : List V} (hi : σ[i]? = some (some (.ref a))) (ha : H a = some (.lst vs)) (hx : FpAll c.K H vs (ns.map em)) (Pv : Nat → L2.St → Hp → Prop) (h0 : Pv 0 σ H) (hl : ∀ j σ' H', Pv j σ' H' → Tx H H' ∧ H' a = some (.lst vs))
    (hs' : ∀ j a v σ' H', ns[j]? = some a → Pv j σ' H' → Fp c.K H' v (em a) → g v σ' H' fun σ2 H2 => tu { D with nx := Pv (j + 1), ct := Pv (j + 1), bk := D.nx } σ2 H2)
    (hd : ∀ σ' H', Pv ns.length σ' H' → D.nx σ' H') : tFor (iList c.K (tVar i)) g tu D σ H := by
  have hn : vs.length = ns.length := by rw [hx.length, List.length_map]
  refine ⟨.ref a, hi, a, rfl, ⟨vs, SqL.of ha⟩, for_list (K := c.K) (a := a) (xs := vs) Pv h0 (fun j σ' H' _ P => SqL.of (hl j σ' H' P).2) ?_ (by rw [hn]; exact hd)⟩
  intro j v σ' H' hj P
  obtain ⟨d, hd', rd⟩ := hx.of_at hj
  rw [List.getElem?_map] at hd'
  cases ha : ns[j]? with
  | none =>
    rw [ha] at hd'
    cases hd'
  | some z =>
    rw [ha] at hd'
    obtain rfl : em z = d := Option.some.inj hd'
    exact hs' j z v σ' H' ha P (rd.mono (hl j σ' H' P).1)
theorem n_forLv (em : α → PyData) (ns : List α) {a : Addr} {vs : List V} (hi : σ[i]? = some (some (.ref a))) (ha : H a = some (.lst vs)) (hx : FpAll c.K H vs (ns.map em)) (Pv : Nat → L2.St → Hp → Prop) (h0 : Pv 0 σ H) (hl : ∀ j σ' H', Pv j σ' H' → Tx H H' ∧ H' a = some (.lst vs))
    (hs' : ∀ j a v σ' H', ns[j]? = some a → Pv j σ' H' → Fp c.K H' v (em a) → g v σ' H' fun σ2 H2 => tu { D with nx := Pv (j + 1), ct := Pv (j + 1), bk := tw D } σ2 H2)
    (hd : ∀ σ' H', Pv ns.length σ' H' → tw D σ' H') : tSeq (tFor (iList c.K (tVar i)) g tu) tw D σ H := s_forLv (D := { D with nx := tw D }) em ns hi ha hx Pv h0 hl hs' hd
end
end K66
set_option Elab.async false
set_option linter.all false
set_option autoImplicit false
set_option maxRecDepth 100000
set_option maxHeartbeats 4000000
/-! K4: products, sums, the greater one of curves. -/
namespace K66
open PySem PySem.Spec PyProof.Rows L2
open Evl (Ex EvT)
/-- what is asked where a curve is read near an income -/
structure NearOk (f : List Nd) (y : Rat) : Prop where
  len : f.length ≤ 400
  xs : ∀ n ∈ f, Sm n.x
  ex : ∃ n ∈ f, ¬ y < n.x
  ln : SmL (near f y) y
structure NearSm (f : List Nd) (y : Rat) : Prop where
  ok : NearOk f y
  v : Sm (vl f y)
  s : Sm (st f y)
  k : Sm (sl f y)
theorem NearOk.r {f : List Nd} {y : Rat} (h : NearOk f y) : R_node_near [.d (.tuple (f.map nodeD)), .d (numD y)] (.d (.tuple [numD (vl f y), numD (st f y), numD (sl f y)])) :=
  ⟨f, y, rfl, by have := h.len; omega, h.xs, h.ex, h.ln, rfl⟩
structure ScaOk (f : List Nd) (q : Rat) : Prop where
  len : f.length ≤ 400
  hq : Sm q
  v : ∀ n ∈ f, Sm n.v
  s : ∀ n ∈ f, Sm n.s
  k : ∀ n ∈ f, Sm n.k
  ok : OkN (f.map (scaNd q))
structure IncOk (f g : List Nd) : Prop where
  len1 : f.length ≤ 400
  len2 : g.length ≤ 400
  ne1 : f ≠ []
  ne2 : g ≠ []
  x1 : ∀ n ∈ f, Sm n.x
  x2 : ∀ n ∈ g, Sm n.x
structure SumOk (f g : List Nd) : Prop where
  inc : IncOk f g
  n1 : ∀ y ∈ incs f g, NearSm f y
  n2 : ∀ y ∈ incs f g, NearSm g y
  ok : OkN ((incs f g).map (sumNd f g))
structure CroOk (y a1 a2 b1 b2 : Rat) : Prop where
  hy : Sm y
  h1 : Sm a1
  h2 : Sm a2
  h3 : Sm b1
  h4 : Sm b2
  hd : Sm (a1 - b1)
  he : Sm (b2 - a2)
  hw : Sm ((a1 - b1) / (b2 - a2))
structure LarOk (f g : List Nd) : Prop where
  inc : IncOk f g
  n1 : ∀ y ∈ incs f g, NearSm f y
  n2 : ∀ y ∈ incs f g, NearSm g y
  cr : ∀ y ∈ incs f g, CroOk y (st f y) (sl f y) (st g y) (sl g y)
  ln : ∀ y ∈ incs f g, ∀ z, cross y (st f y) (sl f y) (st g y) (sl g y) = some z → SmL ⟨y, vl f y, st f y, sl f y⟩ z
  ok : OkN (larN f g (incs f g))
theorem mem_insA {l : List Rat} {q x : Rat} (h : x ∈ insA l q) : x ∈ l ∨ x = q := by
  unfold insA at h
  split at h
  · exact .inl h
  · rcases List.mem_append.mp h with h | h
    · rcases List.mem_append.mp h with h | h
      · exact .inl (List.mem_of_mem_take h)
      · exact .inr (List.mem_singleton.mp h)
    · exact .inl (List.mem_of_mem_drop h)
theorem mem_fold : ∀ {qs l : List Rat} {x : Rat}, x ∈ qs.foldl insA l → x ∈ l ∨ x ∈ qs
  | [], _, _, h => .inl h
  | q :: qs, l, x, h => by
    rcases mem_fold (qs := qs) h with h | h
    · rcases mem_insA h with h | h
      · exact .inl h
      · exact .inr (by rw [h]; exact List.mem_cons_self)
    · exact .inr (List.mem_cons_of_mem _ h)
theorem len_insA (l : List Rat) (q : Rat) : (insA l q).length ≤ l.length + 1 := by
  unfold insA
  split
  · exact Nat.le_succ _
  · rw [List.length_append, List.length_append, List.length_take, List.length_drop, List.length_singleton]
    omega
theorem len_fold : ∀ (qs l : List Rat), (qs.foldl insA l).length ≤ l.length + qs.length
  | [], _ => Nat.le_refl _
  | q :: qs, l => by
    have h := len_fold qs (insA l q)
    have h2 := len_insA l q
    rw [List.length_cons]
    show (qs.foldl insA (insA l q)).length ≤ _
    omega
section
variable {P : Program} {w : World} {c : Cv} {mg : Str → Option Value} {base : Heap} {aZ aT : Addr}
def R_scaled_curve (ks : List KD) (kd : KD) : Prop := ∃ (f : List Nd) (q : Rat), ks = [.c f, .d (numD q)] ∧ ScaOk f q ∧ kd = .c (scaC f q)
theorem c_scaled_curve (T : Txt c mg aZ aT) (S : Src c.K mg "scaled_curve" t_scaled_curve ["curve", "number"]) (c_Curve : DefM P w c.K mg base c.C "__init__" ["self", "nodes"] 6 (spInit c)) (c_product : Def P w c.K mg base "product" ["first", "second"] 3 (spF c R_product)) :
    Def P w c.K mg base "scaled_curve" ["curve", "number"] 8 (spF c R_scaled_curve) := S.ok fun f fd F => by
  refine F.ok sc_scaled_curve (fun vs H Q E h => ?_) (fun cdv A outer s H vs Q E hr h => ?_)
  · obtain ⟨_, _, hk, ⟨p, _, rfl, _⟩, _⟩ := h
    exact hk.length
  · obtain ⟨_, _, hk, ⟨g, q, rfl, hg, rfl⟩, k⟩ := h
    obtain ⟨v0, v1, rfl, r0, r1⟩ := KpAll.two hk
    refine ⟨_, (pss_one (ps_ret (c_Curve.mk T rfl (hr.mono (by decide)) (by rfl) (pa_cons (pe_lc (own := [("node", 2)]) (g := gName 2) (by rfl) sc_scaled_curve.nd (piT c.K rfl (peF c.K rfl (pv 0) rfl)) (blkOk_by (own := [("node", 2)]) (N := ["curve", "number", "node", "one"]) (sc := defScope t_scaled_curve) (by decide +kernel)) (fun _ _ _ _ _ => pg_name (i := 2) sc_scaled_curve.nd rfl (Or.inl rfl)) (fun _ _ _ _ _ => pts_nil) (fun _ _ _ _ _ => (pe_op (oCatT c.K rfl) (pe_tup (pa_cons (pe_ix (ixT c.K rfl) (pv 2) pe_int (fun _ _ => rfl)) pa_nil)) (pe_callTy (kTuple c.K rfl) (by rfl) T.tuple (by decide +kernel) (pa_cons (pe_lc (own := [("one", 3)]) (g := gName 3) (by rfl) sc_scaled_curve.nd (piT c.K rfl (pe_slice (slT c.K rfl) (pv 2) (po_some pe_int) po_none)) (blkOk_by (own := [("one", 3)]) (N := ["curve", "number", "node", "one"]) (sc := relS (compScope1) (defScope t_scaled_curve)) (by decide +kernel)) (fun _ _ _ _ _ => pg_name (i := 3) sc_scaled_curve.nd rfl (Or.inl rfl)) (fun _ _ _ _ _ => pts_nil) (fun _ _ _ _ _ => (c_product.pe (hr.mono (by decide)) (by rfl) (pa_cons (pv 3) (pa_cons (pv 1) pa_nil))))) pa_nil))))) pa_nil)))), ?_⟩
    refine s_ret (ev_make (f := g.map (scaNd q)) (ev_is (EvF.k (ef_mapT nodeD g (fun n => nodeD (scaNd q n)) (by have := hg.len; omega) (ev_nodes T (ev_var rfl r0)) fun n hn v H1 e1 rv => ?_)) (by rw [List.map_map]; rfl)) hg.ok) k
    have rv : Kp c H1 v (.d (nodeD n)) := rv
    have r1 := r1.mono e1
    refine ev_is (ev_catT (ds := [numD n.x]) (es := [n.v, n.s, n.k].map fun r => numD (r * q)) (ev_tup (ed_cons (ev_ixT (ev_var rfl rv) ev_int (atI_nat (j := 0) rfl)) ed_nil)) (ev_tupleOf (EvF.k (ef_mapT (fun r => numD r) [n.v, n.s, n.k] (fun r => numD (r * q)) (Nat.le_of_ble_eq_true rfl) (ev_from1 (ev_var rfl rv)) fun r hr z H2 e2 rz => ?_))) (by simp) (by simp) (by simp)) rfl
    have rz : Kp c H2 z (.d (numD r)) := rz
    have hs : Sm r := by
      rcases List.mem_cons.mp hr with h | hr
      · rw [h]; exact hg.v n hn
      · rcases List.mem_cons.mp hr with h | hr
        · rw [h]; exact hg.s n hn
        · rw [List.mem_singleton.mp hr]; exact hg.k n hn
    exact ev_call (ea_cons (ev_var rfl rz) (ea_cons (ev_var rfl (r1.mono e2)) ea_nil)) ⟨r, q, rfl, hs, hg.hq, rfl⟩
def R_in_ascending_order (ks : List KD) (kd : KD) : Prop := ∃ qs : List Rat, ks = [.l (qs.map fun q => numD q)] ∧ qs.length ≤ 800 ∧ (∀ q ∈ qs, Sm q) ∧ kd = .l ((asc qs).map fun q => numD q)
theorem c_in_ascending_order (T : Txt c mg aZ aT) (S : Src c.K mg "in_ascending_order" t_in_ascending_order ["numbers"]) (c_is_less : Def P w c.K mg base "is_less" ["first", "second"] 1 (spF c R_is_less)) :
    Def P w c.K mg base "in_ascending_order" ["numbers"] 2 (spF c R_in_ascending_order) := S.ok fun f fd F => by
  refine F.ok sc_in_ascending_order (fun vs H Q E h => ?_) (fun cdv A outer s H vs Q E hr h => ?_)
  · obtain ⟨_, _, hk, ⟨p, rfl, _⟩, _⟩ := h
    exact hk.length
  · obtain ⟨_, _, hk, ⟨qs, rfl, hl, hq, rfl⟩, k⟩ := h
    obtain ⟨v0, rfl, r0⟩ := KpAll.one hk
    refine ⟨_, (pss_cons (ps_set (i := 1) sc_in_ascending_order.nd rfl (Or.inl rfl) (pe_lst pa_nil))
      (pss_cons (ps_for PassesOwn.never rfl (piL c.K rfl (pv 0)) (pg_name (i := 2) sc_in_ascending_order.nd rfl (Or.inr rfl)) (pss_one (ps_if (pt_cmpR (oNotInD c.K rfl hr.units65) (pv 2) (pv 1) (by with_unfolding_all rfl)) (pss_cons (ps_set (i := 3) sc_in_ascending_order.nd rfl (Or.inl rfl) (pe_callB (kLen c.K rfl) (by rfl) T.len (by decide +kernel) (pa_cons (pe_lc (own := [("one", 4)]) (g := gName 4) (by rfl) sc_in_ascending_order.nd (piL c.K rfl (pv 1)) (blkOk_by (own := [("one", 4)]) (N := ["numbers", "found", "number", "place", "one"]) (sc := defScope t_in_ascending_order) (by decide +kernel)) (fun _ _ _ _ _ => pg_name (i := 4) sc_in_ascending_order.nd rfl (Or.inl rfl)) (fun _ _ _ _ _ => (pts_one (pt_val (c_is_less.pe (hr.mono (by decide)) (by rfl) (pa_cons (pv 4) (pa_cons (pv 2) pa_nil)))))) (fun _ _ _ _ _ => (pv 4))) pa_nil)))
      (pss_one (ps_set (i := 1) sc_in_ascending_order.nd rfl (Or.inl rfl) (pe_op op_cat (pe_op op_cat (pe_slice (slL c.K rfl) (pv 1) po_none (po_some (pv 3))) (pe_lst (pa_cons (pv 2) pa_nil))) (pe_slice (slL c.K rfl) (pv 1) (po_some (pv 3)) po_none))))) pss_nil)))
      (pss_one (ps_ret (pv 1))))), ?_⟩
    refine n_asg (EvF.k (ef_lst (c := c) ed_nil)) fun v1 H1 e1 r1 => ?_
    refine n_forL (fun q => numD q) qs (ev_var rfl (r0.mono e1)) fun a vs H2 e2 ha => ⟨fun j σ' H' => ∃ u w2 w3 w4, σ' = [some v0, some u, w2, w3, w4] ∧ Ex H2 H' ∧ Kp c H' u (.l (((qs.take j).foldl insA []).map fun q => numD q)), ?_, ?_, ?_, ?_⟩
    · exact ⟨v1, none, none, none, rfl, Ex.refl _, r1.mono e2⟩
    · rintro j σ' H' ⟨u, w2, w3, w4, _, e, _⟩
      exact ⟨Tx.of e, e _ _ ha⟩
    · rintro j q v σ' H' hj ⟨u, w2, w3, w4, rfl, e, ru⟩ rv
      have rv : Kp c H' v (.d (numD q)) := rv
      have tk : (qs.take (j + 1)).foldl insA [] = insA ((qs.take j).foldl insA []) q := by
        rw [List.take_add_one, hj, List.foldl_append]
        rfl
      have hm : ∀ o ∈ (qs.take j).foldl insA [], Sm o := fun o ho => by
        rcases mem_fold ho with h | h
        · cases h
        · exact hq o (List.mem_of_mem_take h)
      have hz : ((qs.take j).foldl insA []).length ≤ 800 := by
        have h := len_fold (qs.take j) []
        rw [List.length_take] at h
        simp only [List.length_nil, Nat.zero_add] at h
        omega
      have hqs : Sm q := hq q (List.mem_of_getElem? hj)
      generalize hF : (qs.take j).foldl insA [] = F at ru tk hm hz
      refine s_ifE (et_test (ev_notIn (ev_var rfl rv) (ev_var rfl ru) (shaped_nums F))) (fun hb H3 e3 => ?_) fun hb H3 e3 => ?_
      · have hni : ¬ q ∈ F := of_decide_eq_false (by simpa using hb)
        have ru := ru.mono e3
        have rv := rv.mono e3
        refine n_asg (ev_is (ev_lenL (EvF.k (ef_lcL (fun q => numD q) F (fun o => decide (o < q)) (fun o => numD o) (by omega) (ev_var rfl ru) (fun o ho z H4 e4 rz => et_val (ev_call (ea_cons (ev_var (kd := .d (numD o)) rfl rz) (ea_cons (ev_var rfl (rv.mono e4)) ea_nil)) ⟨o, q, rfl, hm o ho, hqs, rfl⟩)) fun o _ _ z H4 e4 rz => ev_var (kd := .d (numD o)) rfl rz))) (by rw [List.length_map])) fun p3 H4 e4 r3 => ?_
        have ru := ru.mono e4
        have rv := rv.mono e4
        refine s_asg (kd := .l ((insA F q).map fun q => numD q)) (ev_is (EvF.k (ef_cat (EvF.k (ef_cat (EvF.k (ef_to (ev_var rfl ru) (ev_var rfl r3))) (EvF.k (ef_lst (ed_cons (ev_var rfl rv) ed_nil))) ?_)) (EvF.k (ef_from (ev_var rfl ru) (ev_var rfl r3))) ?_)) ?_) fun z H5 e5 rz => ⟨z, some v, some p3, w4, rfl, ((e.trans e3).trans e4).trans e5, ?_⟩
        · rw [List.length_take, List.length_map]
          show _ + 1 ≤ _
          omega
        · rw [List.length_append, List.length_take, List.length_drop, List.length_map]
          show _ + 1 + _ ≤ _
          omega
        · show KD.l _ = KD.l ((insA F q).map fun q => numD q)
          unfold insA
          rw [if_neg hni, List.map_append, List.map_append, List.map_take, List.map_drop]
          rfl
        · rw [tk]
          exact rz
      · have hni : q ∈ F := of_decide_eq_true (by simpa using hb)
        refine ⟨u, some v, w3, w4, rfl, e.trans e3, ?_⟩
        rw [tk]
        unfold insA
        rw [if_pos hni]
        exact ru.mono e3
    · rintro σ' H' ⟨u, w2, w3, w4, rfl, e, ru⟩
      rw [List.take_length] at ru
      exact s_ret (ev_var rfl ru) fun v H3 e3 r => k v H3 (((e1.trans e2).trans e).trans e3) r
def R_all_incomes (ks : List KD) (kd : KD) : Prop := ∃ f g : List Nd, ks = [.c f, .c g] ∧ IncOk f g ∧ kd = .l ((incs f g).map fun q => numD q)
theorem c_all_incomes (T : Txt c mg aZ aT) (S : Src c.K mg "all_incomes" t_all_incomes ["first", "second"]) (c_in_ascending_order : Def P w c.K mg base "in_ascending_order" ["numbers"] 2 (spF c R_in_ascending_order)) :
    Def P w c.K mg base "all_incomes" ["first", "second"] 3 (spF c R_all_incomes) := S.ok fun f fd F => by
  refine F.ok sc_all_incomes (fun vs H Q E h => ?_) (fun cdv A outer s H vs Q E hr h => ?_)
  · obtain ⟨_, _, hk, ⟨p, _, rfl, _⟩, _⟩ := h
    exact hk.length
  · obtain ⟨_, _, hk, ⟨g, g', rfl, hi, rfl⟩, k⟩ := h
    obtain ⟨v0, v1, rfl, r0, r1⟩ := KpAll.two hk
    refine ⟨_, (pss_one (ps_ret (c_in_ascending_order.pe (hr.mono (by decide)) (by rfl) (pa_cons (pe_lc (own := [("node", 2)]) (g := gName 2) (by rfl) sc_all_incomes.nd (piT c.K rfl (pe_op (oCatT c.K rfl) (peF c.K rfl (pv 0) rfl) (peF c.K rfl (pv 1) rfl))) (blkOk_by (own := [("node", 2)]) (N := ["first", "second", "node"]) (sc := defScope t_all_incomes) (by decide +kernel)) (fun _ _ _ _ _ => pg_name (i := 2) sc_all_incomes.nd rfl (Or.inl rfl)) (fun _ _ _ _ _ => pts_nil) (fun _ _ _ _ _ => (pe_ix (ixT c.K rfl) (pv 2) pe_int (fun _ _ => rfl)))) pa_nil)))), ?_⟩
    have l1 := hi.len1
    have l2 := hi.len2
    refine s_ret (ev_call (R := R_in_ascending_order) (ea_cons (ev_is (EvF.k (ef_mapT nodeD (g ++ g') (fun n => numD n.x) ?_ (ev_is (ev_catT (ev_nodes T (ev_var rfl r0)) (ev_nodes T (ev_var rfl r1)) ?_ ?_ ?_) ?_) fun n hn v H1 e1 rv => ev_ixT (ev_var (kd := .d (nodeD n)) rfl rv) ev_int (atI_nat (j := 0) rfl))) ?_) ea_nil) ⟨(g ++ g').map (fun n : Nd => n.x), rfl, ?_, fun q hq => ?_, rfl⟩) k
    · rw [List.length_append]
      omega
    · intro z
      exact hi.ne1 (List.map_eq_nil_iff.mp z)
    · intro z
      exact hi.ne2 (List.map_eq_nil_iff.mp z)
    · rw [List.length_map, List.length_map]
      omega
    · rw [List.map_append]
    · rw [List.map_map]
      rfl
    · rw [List.length_map, List.length_append]
      omega
    · obtain ⟨n, hn, rfl⟩ := List.mem_map.mp hq
      rcases List.mem_append.mp hn with h | h
      · exact hi.x1 n h
      · exact hi.x2 n h
def R_node_sum (ks : List KD) (kd : KD) : Prop := ∃ (f g : List Nd) (y : Rat), ks = [.c f, .c g, .d (numD y)] ∧ NearSm f y ∧ NearSm g y ∧ kd = .d (nodeD (sumNd f g y))
theorem c_node_sum (T : Txt c mg aZ aT) (S : Src c.K mg "node_sum" t_node_sum ["first", "second", "income"]) (c_node_near : Def P w c.K mg base "node_near" ["nodes", "income"] 6 (spF c R_node_near)) (c_plus : Def P w c.K mg base "plus" ["first", "second"] 3 (spF c R_plus)) :
    Def P w c.K mg base "node_sum" ["first", "second", "income"] 7 (spF c R_node_sum) := S.ok fun f fd F => by
  refine F.ok sc_node_sum (fun vs H Q E h => ?_) (fun cdv A outer s H vs Q E hr h => ?_)
  · obtain ⟨_, _, hk, ⟨p, _, _, rfl, _⟩, _⟩ := h
    exact hk.length
  · obtain ⟨_, _, hk, ⟨g, g', y, rfl, hg, hg', rfl⟩, k⟩ := h
    obtain ⟨v0, v1, v2, rfl, r0, r1, r2⟩ := KpAll.three hk
    refine ⟨_, (pss_cons (ps_par (i := 3) (j := 4) (by rfl) sc_node_sum.nd rfl rfl (by decide) rfl rfl (pa_cons (c_node_near.pe (hr.mono (by decide)) (by rfl) (pa_cons (peF c.K rfl (pv 0) rfl) (pa_cons (pv 2) pa_nil))) (pa_cons (c_node_near.pe (hr.mono (by decide)) (by rfl) (pa_cons (peF c.K rfl (pv 1) rfl) (pa_cons (pv 2) pa_nil))) pa_nil)) (by rfl))
      (pss_one (ps_ret (pe_tup (pa_cons (pv 2) (pa_cons (c_plus.pe (hr.mono (by decide)) (by rfl) (pa_cons (pe_ix (ixT c.K rfl) (pv 3) pe_int (fun _ _ => rfl)) (pa_cons (pe_ix (ixT c.K rfl) (pv 4) pe_int (fun _ _ => rfl)) pa_nil))) (pa_cons (c_plus.pe (hr.mono (by decide)) (by rfl) (pa_cons (pe_ix (ixT c.K rfl) (pv 3) pe_int (fun _ _ => rfl)) (pa_cons (pe_ix (ixT c.K rfl) (pv 4) pe_int (fun _ _ => rfl)) pa_nil))) (pa_cons (c_plus.pe (hr.mono (by decide)) (by rfl) (pa_cons (pe_ix (ixT c.K rfl) (pv 3) pe_int (fun _ _ => rfl)) (pa_cons (pe_ix (ixT c.K rfl) (pv 4) pe_int (fun _ _ => rfl)) pa_nil))) pa_nil)))))))), ?_⟩
    refine n_par (ea_cons (ev_call (ea_cons (ev_nodes T (ev_var rfl r0)) (ea_cons (ev_var rfl r2) ea_nil)) hg.ok.r) (ea_cons (ev_call (ea_cons (ev_nodes T (ev_var rfl r1)) (ea_cons (ev_var rfl r2) ea_nil)) hg'.ok.r) ea_nil)) fun v3 v4 H1 e1 r3 r4 => ?_
    have r2 := r2.mono e1
    exact s_ret (ev_tup (ed_cons (ev_var rfl r2) (ed_cons (ev_call (ea_cons (ev_ixT (ev_var rfl r3) ev_int (atI_nat (j := 0) rfl)) (ea_cons (ev_ixT (ev_var rfl r4) ev_int (atI_nat (j := 0) rfl)) ea_nil)) ⟨_, _, rfl, hg.v, hg'.v, rfl⟩)
      (ed_cons (ev_call (ea_cons (ev_ixT (ev_var rfl r3) ev_int (atI_nat (j := 1) rfl)) (ea_cons (ev_ixT (ev_var rfl r4) ev_int (atI_nat (j := 1) rfl)) ea_nil)) ⟨_, _, rfl, hg.s, hg'.s, rfl⟩)
      (ed_cons (ev_call (ea_cons (ev_ixT (ev_var rfl r3) ev_int (atI_nat (j := 2) rfl)) (ea_cons (ev_ixT (ev_var rfl r4) ev_int (atI_nat (j := 2) rfl)) ea_nil)) ⟨_, _, rfl, hg.k, hg'.k, rfl⟩) ed_nil))))) fun v H2 e2 r => k v H2 (e1.trans e2) r
theorem len_incs (f g : List Nd) : (incs f g).length ≤ f.length + g.length := by
  have h := len_fold ((f ++ g).map (·.x)) []
  rw [List.length_map, List.length_append] at h
  simpa [incs, asc] using h
def R_sum_of (ks : List KD) (kd : KD) : Prop := ∃ f g : List Nd, ks = [.c f, .c g] ∧ SumOk f g ∧ kd = .c (sumC f g)
theorem c_sum_of (T : Txt c mg aZ aT) (S : Src c.K mg "sum_of" t_sum_of ["first", "second"]) (c_Curve : DefM P w c.K mg base c.C "__init__" ["self", "nodes"] 6 (spInit c)) (c_node_sum : Def P w c.K mg base "node_sum" ["first", "second", "income"] 7 (spF c R_node_sum)) (c_all_incomes : Def P w c.K mg base "all_incomes" ["first", "second"] 3 (spF c R_all_incomes)) :
    Def P w c.K mg base "sum_of" ["first", "second"] 8 (spF c R_sum_of) := S.ok fun f fd F => by
  refine F.ok sc_sum_of (fun vs H Q E h => ?_) (fun cdv A outer s H vs Q E hr h => ?_)
  · obtain ⟨_, _, hk, ⟨p, _, rfl, _⟩, _⟩ := h
    exact hk.length
  · obtain ⟨_, _, hk, ⟨g, g', rfl, hg, rfl⟩, k⟩ := h
    obtain ⟨v0, v1, rfl, r0, r1⟩ := KpAll.two hk
    refine ⟨_, (pss_one (ps_ret (c_Curve.mk T rfl (hr.mono (by decide)) (by rfl) (pa_cons (pe_lc (own := [("income", 2)]) (g := gName 2) (by rfl) sc_sum_of.nd (piL c.K rfl (c_all_incomes.pe (hr.mono (by decide)) (by rfl) (pa_cons (pv 0) (pa_cons (pv 1) pa_nil)))) (blkOk_by (own := [("income", 2)]) (N := ["first", "second", "income"]) (sc := defScope t_sum_of) (by decide +kernel)) (fun _ _ _ _ _ => pg_name (i := 2) sc_sum_of.nd rfl (Or.inl rfl)) (fun _ _ _ _ _ => pts_nil) (fun _ _ _ _ _ => (c_node_sum.pe (hr.mono (by decide)) (by rfl) (pa_cons (pv 0) (pa_cons (pv 1) (pa_cons (pv 2) pa_nil)))))) pa_nil)))), ?_⟩
    refine s_ret (ev_make (f := (incs g g').map (sumNd g g')) (ev_is (EvF.k (ef_mapL (fun q => numD q) (incs g g') (fun y => nodeD (sumNd g g' y)) ?_ (ev_call (ea_cons (ev_var rfl r0) (ea_cons (ev_var rfl r1) ea_nil)) ⟨g, g', rfl, hg.inc, rfl⟩) fun y hy v H1 e1 rv => ?_)) (by rw [List.map_map]; rfl)) hg.ok) k
    · have := len_incs g g'
      have l1 := hg.inc.len1
      have l2 := hg.inc.len2
      omega
    · exact ev_call (ea_cons (ev_var rfl (r0.mono e1)) (ea_cons (ev_var rfl (r1.mono e1)) (ea_cons (ev_var (kd := .d (numD y)) rfl rv) ea_nil))) ⟨g, g', y, rfl, hg.n1 y hy, hg.n2 y hy, rfl⟩
def R_add (ks : List KD) (kd : KD) : Prop := ∃ f g : List Nd, ks = [.c f, .c g] ∧ SumOk f g ∧ kd = .c (sumC f g)
theorem c_add (T : Txt c mg aZ aT) (S : SrcM c.K c.C "__add__" "Curve.__add__" t_madd ["self", "other"]) (c_sum_of : Def P w c.K mg base "sum_of" ["first", "second"] 8 (spF c R_sum_of)) :
    DefM P w c.K mg base c.C "__add__" ["self", "other"] 9 (spF c R_add) := S.ok fun f fd F => by
  refine F.ok sc_madd (fun vs H Q E h => ?_) (fun cdv A outer s H vs Q E hr h => ?_)
  · obtain ⟨_, _, hk, ⟨p, _, rfl, _⟩, _⟩ := h
    exact hk.length
  · obtain ⟨_, _, hk, ⟨g, g', rfl, hg, rfl⟩, k⟩ := h
    obtain ⟨v0, v1, rfl, r0, r1⟩ := KpAll.two hk
    refine ⟨_, (pss_one (ps_ret (c_sum_of.pe (hr.mono (by decide)) (by rfl) (pa_cons (pv 0) (pa_cons (pv 1) pa_nil))))), ?_⟩
    exact s_ret (ev_call (ea_cons (ev_var rfl r0) (ea_cons (ev_var rfl r1) ea_nil)) ⟨g, g', rfl, hg, rfl⟩) k
def R_sub (ks : List KD) (kd : KD) : Prop := ∃ f g : List Nd, ks = [.c f, .c g] ∧ ScaOk g (-1) ∧ SumOk f (scaC g (-1)) ∧ kd = .c (subC f g)
theorem c_sub (T : Txt c mg aZ aT) (S : SrcM c.K c.C "__sub__" "Curve.__sub__" t_msub ["self", "other"]) (c_sum_of : Def P w c.K mg base "sum_of" ["first", "second"] 8 (spF c R_sum_of)) (c_scaled_curve : Def P w c.K mg base "scaled_curve" ["curve", "number"] 8 (spF c R_scaled_curve)) :
    DefM P w c.K mg base c.C "__sub__" ["self", "other"] 9 (spF c R_sub) := S.ok fun f fd F => by
  refine F.ok sc_msub (fun vs H Q E h => ?_) (fun cdv A outer s H vs Q E hr h => ?_)
  · obtain ⟨_, _, hk, ⟨p, _, rfl, _⟩, _⟩ := h
    exact hk.length
  · obtain ⟨_, _, hk, ⟨g, g', rfl, hg, hg', rfl⟩, k⟩ := h
    obtain ⟨v0, v1, rfl, r0, r1⟩ := KpAll.two hk
    refine ⟨_, (pss_one (ps_ret (c_sum_of.pe (hr.mono (by decide)) (by rfl) (pa_cons (pv 0) (pa_cons (c_scaled_curve.pe (hr.mono (by decide)) (by rfl) (pa_cons (pv 1) (pa_cons (pe_tup (pa_cons (pe_un un_neg pe_int) (pa_cons pe_int pa_nil))) pa_nil))) pa_nil))))), ?_⟩
    exact s_ret (ev_call (ea_cons (ev_var rfl r0) (ea_cons (ev_call (R := R_scaled_curve) (ea_cons (ev_var rfl r1) (ea_cons (ev_tup (ed_cons (ev_neg ev_int) (ed_cons ev_int ed_nil))) ea_nil)) ⟨g', -1, rfl, hg, rfl⟩) ea_nil)) ⟨g, scaC g' (-1), rfl, hg', rfl⟩) k
def R_larger_piece (ks : List KD) (kd : KD) : Prop := ∃ a1 a2 b1 b2 : Rat, ks = [.d (.tuple [numD a1, numD a2]), .d (.tuple [numD b1, numD b2])] ∧ Sm a1 ∧ Sm a2 ∧ Sm b1 ∧ Sm b2 ∧ kd = .d (.tuple [numD (larP a1 a2 b1 b2).1, numD (larP a1 a2 b1 b2).2])
theorem c_larger_piece (T : Txt c mg aZ aT) (S : Src c.K mg "larger_piece" t_larger_piece ["first", "second"]) (c_is_less : Def P w c.K mg base "is_less" ["first", "second"] 1 (spF c R_is_less)) (c_larger_of : Def P w c.K mg base "larger_of" ["first", "second"] 2 (spF c R_larger_of)) :
    Def P w c.K mg base "larger_piece" ["first", "second"] 3 (spF c R_larger_piece) := S.ok fun f fd F => by
  refine F.ok sc_larger_piece (fun vs H Q E h => ?_) (fun cdv A outer s H vs Q E hr h => ?_)
  · obtain ⟨_, _, hk, ⟨_, _, _, _, rfl, _⟩, _⟩ := h
    exact hk.length
  · obtain ⟨_, _, hk, ⟨a1, a2, b1, b2, rfl, h1, h2, h3, h4, rfl⟩, k⟩ := h
    obtain ⟨v0, v1, rfl, r0, r1⟩ := KpAll.two hk
    refine ⟨_, (pss_cons (ps_if (pt_cmpR (oEqD c.K rfl hr.units) (pe_ix (ixT c.K rfl) (pv 0) pe_int (fun _ _ => rfl)) (pe_ix (ixT c.K rfl) (pv 1) pe_int (fun _ _ => rfl)) (nomark _)) (pss_one (ps_ret (pe_tup (pa_cons (pe_ix (ixT c.K rfl) (pv 0) pe_int (fun _ _ => rfl)) (pa_cons (c_larger_of.pe (hr.mono (by decide)) (by rfl) (pa_cons (pe_ix (ixT c.K rfl) (pv 0) pe_int (fun _ _ => rfl)) (pa_cons (pe_ix (ixT c.K rfl) (pv 1) pe_int (fun _ _ => rfl)) pa_nil))) pa_nil))))) pss_nil)
      (pss_one (ps_ret (pe_ifExp (pt_val (c_is_less.pe (hr.mono (by decide)) (by rfl) (pa_cons (pe_ix (ixT c.K rfl) (pv 0) pe_int (fun _ _ => rfl)) (pa_cons (pe_ix (ixT c.K rfl) (pv 1) pe_int (fun _ _ => rfl)) pa_nil)))) (pv 1) (pv 0))))), ?_⟩
    refine n_ifE (b := decide (a1 = b1)) (et_test (ev_is (ev_eqD (ev_ixT (ev_var rfl r0) ev_int (atI_nat (j := 0) rfl)) (ev_ixT (ev_var rfl r1) ev_int (atI_nat (j := 0) rfl)) (.d _) (.d _) rfl rfl) (by rw [eqv_num]))) (fun hb H1 e1 => ?_) fun hb H1 e1 => ?_
    · have r0 := r0.mono e1
      have r1 := r1.mono e1
      refine s_ret (ev_is (ev_tup (ed_cons (ev_ixT (ev_var rfl r0) ev_int (atI_nat (j := 0) rfl)) (ed_cons (ev_call (ea_cons (ev_ixT (ev_var rfl r0) ev_int (atI_nat (j := 1) rfl)) (ea_cons (ev_ixT (ev_var rfl r1) ev_int (atI_nat (j := 1) rfl)) ea_nil)) ⟨a2, b2, rfl, h2, h4, rfl⟩) ed_nil))) ?_) fun v H2 e2 r => k v H2 (e1.trans e2) r
      unfold larP
      rw [if_pos (of_decide_eq_true hb)]
    · have r0 := r0.mono e1
      have r1 := r1.mono e1
      have hne := of_decide_eq_false hb
      refine s_ret (ev_if (b := decide (a1 < b1)) (et_val (ev_call (ea_cons (ev_ixT (ev_var rfl r0) ev_int (atI_nat (j := 0) rfl)) (ea_cons (ev_ixT (ev_var rfl r1) ev_int (atI_nat (j := 0) rfl)) ea_nil)) ⟨a1, b1, rfl, h1, h3, rfl⟩)) (fun hc => ev_is (ev_var rfl r1) ?_) fun hc => ev_is (ev_var rfl r0) ?_) fun v H2 e2 r => k v H2 (e1.trans e2) r
      · unfold larP
        rw [if_neg hne, if_pos (of_decide_eq_true hc)]
      · unfold larP
        rw [if_neg hne, if_neg (of_decide_eq_false hc)]
def optD (o : Option Rat) : PyData := match o with
  | none => .none
  | some z => numD z
def R_crossing (ks : List KD) (kd : KD) : Prop := ∃ y a1 a2 b1 b2 : Rat, ks = [.d (numD y), .d (.tuple [numD a1, numD a2]), .d (.tuple [numD b1, numD b2])] ∧ CroOk y a1 a2 b1 b2 ∧ kd = .d (optD (cross y a1 a2 b1 b2))
theorem c_crossing (T : Txt c mg aZ aT) (S : Src c.K mg "crossing" t_crossing ["income", "first", "second"]) (c_quotient : Def P w c.K mg base "quotient" ["first", "second"] 3 (spF c R_quotient)) (c_minus : Def P w c.K mg base "minus" ["first", "second"] 4 (spF c R_minus)) (c_is_less : Def P w c.K mg base "is_less" ["first", "second"] 1 (spF c R_is_less)) (c_plus : Def P w c.K mg base "plus" ["first", "second"] 3 (spF c R_plus)) :
    Def P w c.K mg base "crossing" ["income", "first", "second"] 5 (spF c R_crossing) := S.ok fun f fd F => by
  refine F.ok sc_crossing (fun vs H Q E h => ?_) (fun cdv A outer s H vs Q E hr h => ?_)
  · obtain ⟨_, _, hk, ⟨_, _, _, _, _, rfl, _⟩, _⟩ := h
    exact hk.length
  · obtain ⟨_, _, hk, ⟨y, a1, a2, b1, b2, rfl, ho, rfl⟩, k⟩ := h
    obtain ⟨v0, v1, v2, rfl, r0, r1, r2⟩ := KpAll.three hk
    refine ⟨_, (pss_cons (ps_par (i := 3) (j := 4) (by rfl) sc_crossing.nd rfl rfl (by decide) rfl rfl (pa_cons (c_minus.pe (hr.mono (by decide)) (by rfl) (pa_cons (pe_ix (ixT c.K rfl) (pv 1) pe_int (fun _ _ => rfl)) (pa_cons (pe_ix (ixT c.K rfl) (pv 2) pe_int (fun _ _ => rfl)) pa_nil))) (pa_cons (c_minus.pe (hr.mono (by decide)) (by rfl) (pa_cons (pe_ix (ixT c.K rfl) (pv 2) pe_int (fun _ _ => rfl)) (pa_cons (pe_ix (ixT c.K rfl) (pv 1) pe_int (fun _ _ => rfl)) pa_nil))) pa_nil)) (by rfl))
      (pss_cons (ps_if (PW.pt (pw_or (pt_cmpR (oEqD c.K rfl hr.units) (pv 3) (pe_glob (v := .ref aZ) (by rfl) T.mgZERO rfl) (nomark _)) (pw_or1 (pt_cmpR (oEqD c.K rfl hr.units) (pv 4) (pe_glob (v := .ref aZ) (by rfl) T.mgZERO rfl) (nomark _))))) (pss_one (ps_ret pe_non)) pss_nil)
      (pss_cons (ps_set (i := 5) sc_crossing.nd rfl (Or.inl rfl) (c_quotient.pe (hr.mono (by decide)) (by rfl) (pa_cons (pv 3) (pa_cons (pv 4) pa_nil))))
      (pss_one (ps_ret (pe_ifExp (pt_val (c_is_less.pe (hr.mono (by decide)) (by rfl) (pa_cons (pe_glob (v := .ref aZ) (by rfl) T.mgZERO rfl) (pa_cons (pv 5) pa_nil)))) (c_plus.pe (hr.mono (by decide)) (by rfl) (pa_cons (pv 0) (pa_cons (pv 5) pa_nil))) pe_non)))))), ?_⟩
    refine n_par (ea_cons (ev_call (ea_cons (ev_ixT (ev_var rfl r1) ev_int (atI_nat (j := 0) rfl)) (ea_cons (ev_ixT (ev_var rfl r2) ev_int (atI_nat (j := 0) rfl)) ea_nil)) ⟨a1, b1, rfl, ho.h1, ho.h3, rfl⟩)
      (ea_cons (ev_call (ea_cons (ev_ixT (ev_var rfl r2) ev_int (atI_nat (j := 1) rfl)) (ea_cons (ev_ixT (ev_var rfl r1) ev_int (atI_nat (j := 1) rfl)) ea_nil)) ⟨b2, a2, rfl, ho.h4, ho.h2, rfl⟩) ea_nil)) fun v3 v4 H1 e1 r3 r4 => ?_
    refine n_ifE (b := decide (a1 - b1 = 0) || decide (b2 - a2 = 0)) (et_or (et_test (ev_is (ev_eqD (ev_var rfl r3) (ev_glob (kd := .d (numD 0)) (T.zero H1)) (.d _) (.d _) rfl rfl) (by rw [eqv_num]))) fun _ => et_test (ev_is (ev_eqD (ev_var rfl r4) (ev_glob (kd := .d (numD 0)) (T.zero H1)) (.d _) (.d _) rfl rfl) (by rw [eqv_num]))) (fun hb H2 e2 => ?_) fun hb H2 e2 => ?_
    · refine s_ret (ev_is (ev_non (c := c)) ?_) fun v H3 e3 r => k v H3 ((e1.trans e2).trans e3) r
      unfold cross
      rw [if_pos (by simpa using hb)]
      rfl
    · have hne : ¬ (a1 - b1 = 0 ∨ b2 - a2 = 0) := by simpa using hb
      have r0 := (r0.mono e1).mono e2
      have r3 := r3.mono e2
      have r4 := r4.mono e2
      refine n_asg (ev_call (ea_cons (ev_var rfl r3) (ea_cons (ev_var rfl r4) ea_nil)) ⟨_, _, rfl, ho.hd, ho.he, fun z => hne (.inr z), rfl⟩) fun v5 H3 e3 r5 => ?_
      refine s_ret (ev_if (b := decide (0 < (a1 - b1) / (b2 - a2))) (et_val (ev_call (ea_cons (ev_glob (kd := .d (numD 0)) (T.zero H3)) (ea_cons (ev_var rfl r5) ea_nil)) ⟨0, _, rfl, ht_zero.mono (by decide), ho.hw, rfl⟩)) (fun hc => ev_is (ev_call (ea_cons (ev_var rfl (r0.mono e3)) (ea_cons (ev_var rfl r5) ea_nil)) ⟨y, _, rfl, ho.hy, ho.hw, rfl⟩) ?_) fun hc => ev_is (ev_non (c := c)) ?_) fun v H4 e4 r => k v H4 (((e1.trans e2).trans e3).trans e4) r
      · unfold cross
        rw [if_neg hne, if_pos (of_decide_eq_true hc)]
        rfl
      · unfold cross
        rw [if_neg hne, if_neg (of_decide_eq_false hc)]
        rfl
end
end K66
set_option Elab.async false
set_option linter.all false
set_option autoImplicit false
set_option maxRecDepth 100000
set_option maxHeartbeats 4000000
/-! K5: the larger of two curves, the highest so far. -/
namespace K66
open PySem PySem.Spec PyProof.Rows L2
open Evl (Ex EvT)
theorem larN_cons (f g : List Nd) (y : Rat) (r : List Rat) : larN f g (y :: r) = larNd f g y :: (larX f g y r.head? ++ larN f g r) := rfl
theorem larX_none {f g : List Nd} {y : Rat} {nx : Option Rat} (h : cross y (st f y) (sl f y) (st g y) (sl g y) = none) : larX f g y nx = [] := by
  unfold larX
  rw [h]
theorem larX_yes {f g : List Nd} {y z : Rat} {nx : Option Rat} (h : cross y (st f y) (sl f y) (st g y) (sl g y) = some z) (hb : (match nx with | none => true | some u => decide (z < u)) = true) :
    larX f g y nx = [⟨z, lineAt ⟨y, vl f y, st f y, sl f y⟩ z, lineAt ⟨y, vl f y, st f y, sl f y⟩ z, if sl f y < sl g y then sl g y else sl f y⟩] := by
  unfold larX
  rw [h]
  exact if_pos hb
theorem larX_no {f g : List Nd} {y z : Rat} {nx : Option Rat} (h : cross y (st f y) (sl f y) (st g y) (sl g y) = some z) (hb : (match nx with | none => true | some u => decide (z < u)) = false) : larX f g y nx = [] := by
  unfold larX
  rw [h]
  exact if_neg fun e => Bool.false_ne_true (hb.symm.trans e)
theorem fp_len {K : Fg} {H : Hp} {vs : List V} {f : List Nd} (h : FpAll K H vs (f.map nodeD)) : vs.length = f.length := by rw [h.length, List.length_map]
section
variable {P : Program} {w : World} {c : Cv} {mg : Str → Option Value} {base : Heap} {aZ aT : Addr}
def R_larger_curve (ks : List KD) (kd : KD) : Prop := ∃ f g : List Nd, ks = [.c f, .c g] ∧ LarOk f g ∧ kd = .c (larC f g)
theorem insA_ne {l : List Rat} {q : Rat} : insA l q ≠ [] := by
  unfold insA
  split
  · rename_i h
    intro z
    rw [z] at h
    cases h
  · intro z
    have := congrArg List.length z
    simp only [List.length_append, List.length_cons, List.length_nil] at this
    omega
theorem fold_ne : ∀ {qs l : List Rat}, l ≠ [] ∨ qs ≠ [] → qs.foldl insA l ≠ []
  | [], _, h => by
    rcases h with h | h
    · exact h
    · exact absurd rfl h
  | q :: qs, l, _ => fold_ne (qs := qs) (l := insA l q) (.inl insA_ne)
theorem incs_ne {f g : List Nd} (h : f ≠ []) : incs f g ≠ [] := by
  refine fold_ne (.inr fun z => ?_)
  cases f with
  | nil => exact h rfl
  | cons a t => cases z
theorem c_larger_curve (T : Txt c mg aZ aT) (S : Src c.K mg "larger_curve" t_larger_curve ["first", "second"]) (c_all_incomes : Def P w c.K mg base "all_incomes" ["first", "second"] 3 (spF c R_all_incomes)) (c_Curve : DefM P w c.K mg base c.C "__init__" ["self", "nodes"] 6 (spInit c)) (c_node_near : Def P w c.K mg base "node_near" ["nodes", "income"] 6 (spF c R_node_near)) (c_crossing : Def P w c.K mg base "crossing" ["income", "first", "second"] 5 (spF c R_crossing)) (c_reached_by : Def P w c.K mg base "reached_by" ["node", "income"] 5 (spF c R_reached_by)) (c_larger_piece : Def P w c.K mg base "larger_piece" ["first", "second"] 3 (spF c R_larger_piece)) (c_is_less : Def P w c.K mg base "is_less" ["first", "second"] 1 (spF c R_is_less)) (c_larger_of : Def P w c.K mg base "larger_of" ["first", "second"] 2 (spF c R_larger_of)) :
    Def P w c.K mg base "larger_curve" ["first", "second"] 8 (spF c R_larger_curve) := S.ok fun f fd F => by
  refine F.ok sc_larger_curve (fun vs H Q E h => ?_) (fun cdv A outer s H vs Q E hr h => ?_)
  · obtain ⟨_, _, hk, ⟨p, _, rfl, _⟩, _⟩ := h
    exact hk.length
  · obtain ⟨_, _, hk, ⟨g, g', rfl, ho, rfl⟩, k⟩ := h
    obtain ⟨v0, v1, rfl, r0, r1⟩ := KpAll.two hk
    refine ⟨_, (pss_cons (ps_set (i := 2) sc_larger_curve.nd rfl (Or.inl rfl) (pe_lst pa_nil))
      (pss_cons (ps_set (i := 3) sc_larger_curve.nd rfl (Or.inl rfl) (c_all_incomes.pe (hr.mono (by decide)) (by rfl) (pa_cons (pv 0) (pa_cons (pv 1) pa_nil))))
      (pss_cons (ps_for PassesOwn.never rfl (piEnL c.K rfl (by rfl) T.enumerate (pa_cons (pv 3) pa_nil)) (pg_tup rfl (pgs_cons (pg_name (i := 4) sc_larger_curve.nd rfl (Or.inl rfl)) (pgs_cons (pg_name (i := 5) sc_larger_curve.nd rfl (Or.inl rfl)) pgs_nil))) (pss_cons (ps_asg (c_node_near.pe (hr.mono (by decide)) (by rfl) (pa_cons (peF c.K rfl (pv 0) rfl) (pa_cons (pv 5) pa_nil))) (pg_tup rfl (pgs_cons (pg_name (i := 6) sc_larger_curve.nd rfl (Or.inl rfl)) (pgs_cons (pg_name (i := 7) sc_larger_curve.nd rfl (Or.inl rfl)) (pgs_cons (pg_name (i := 8) sc_larger_curve.nd rfl (Or.inl rfl)) pgs_nil)))))
      (pss_cons (ps_asg (c_node_near.pe (hr.mono (by decide)) (by rfl) (pa_cons (peF c.K rfl (pv 1) rfl) (pa_cons (pv 5) pa_nil))) (pg_tup rfl (pgs_cons (pg_name (i := 9) sc_larger_curve.nd rfl (Or.inl rfl)) (pgs_cons (pg_name (i := 10) sc_larger_curve.nd rfl (Or.inl rfl)) (pgs_cons (pg_name (i := 11) sc_larger_curve.nd rfl (Or.inl rfl)) pgs_nil)))))
      (pss_cons (ps_expr (pe_bm PySem.F.plainAttrs_list PySem.F.slot_list_append PySem.F.type_list_append mt_append (pv 2) (pa_cons (pe_op (oCatT c.K rfl) (pe_tup (pa_cons (pv 5) (pa_cons (c_larger_of.pe (hr.mono (by decide)) (by rfl) (pa_cons (pv 6) (pa_cons (pv 9) pa_nil))) pa_nil))) (c_larger_piece.pe (hr.mono (by decide)) (by rfl) (pa_cons (pe_tup (pa_cons (pv 7) (pa_cons (pv 8) pa_nil))) (pa_cons (pe_tup (pa_cons (pv 10) (pa_cons (pv 11) pa_nil))) pa_nil)))) pa_nil)))
      (pss_cons (ps_set (i := 12) sc_larger_curve.nd rfl (Or.inl rfl) (c_crossing.pe (hr.mono (by decide)) (by rfl) (pa_cons (pv 5) (pa_cons (pe_tup (pa_cons (pv 7) (pa_cons (pv 8) pa_nil))) (pa_cons (pe_tup (pa_cons (pv 10) (pa_cons (pv 11) pa_nil))) pa_nil)))))
      (pss_one (ps_if (PW.pt (pw_and (pt_cmpR op_notN (pv 12) pe_non (nomark _)) (pw_and1 (PW.pt (pw_or (pt_cmpR (oEqD c.K rfl hr.units) (pe_op op_add (pv 4) pe_int) (pe_callB (kLen c.K rfl) (by rfl) T.len (by decide +kernel) (pa_cons (pv 3) pa_nil)) (nomark _)) (pw_or1 (pt_val (c_is_less.pe (hr.mono (by decide)) (by rfl) (pa_cons (pv 12) (pa_cons (pe_ix (ixL c.K rfl) (pv 3) (pe_op op_add (pv 4) pe_int) (fun _ _ => rfl)) pa_nil)))))))))) (pss_cons (ps_set (i := 13) sc_larger_curve.nd rfl (Or.inl rfl) (c_reached_by.pe (hr.mono (by decide)) (by rfl) (pa_cons (pe_tup (pa_cons (pv 5) (pa_cons (pv 6) (pa_cons (pv 7) (pa_cons (pv 8) pa_nil))))) (pa_cons (pv 12) pa_nil))))
      (pss_cons (ps_set (i := 14) sc_larger_curve.nd rfl (Or.inl rfl) (pe_ifExp (pt_val (c_is_less.pe (hr.mono (by decide)) (by rfl) (pa_cons (pv 8) (pa_cons (pv 11) pa_nil)))) (pv 11) (pv 8)))
      (pss_one (ps_expr (pe_bm PySem.F.plainAttrs_list PySem.F.slot_list_append PySem.F.type_list_append mt_append (pv 2) (pa_cons (pe_tup (pa_cons (pv 12) (pa_cons (pv 13) (pa_cons (pv 13) (pa_cons (pv 14) pa_nil))))) pa_nil)))))) pss_nil)))))))
      (pss_one (ps_ret (c_Curve.mk T rfl (hr.mono (by decide)) (by rfl) (pa_cons (pv 2) pa_nil))))))), ?_⟩
    refine n_asgF (ef_lst (c := c) ed_nil) fun l vs0 H1 hl0 e1 hl1 rl => ?_
    refine n_asg (ev_call (ea_cons (ev_var rfl (r0.mono e1)) (ea_cons (ev_var rfl (r1.mono e1)) ea_nil)) ⟨g, g', rfl, ho.inc, rfl⟩) fun v3 H2 e2 r3 => ?_
    obtain ⟨a0, us, rfl, ha0, hx0⟩ := (show LstR c H2 v3 _ from r3)
    obtain rfl : vs0 = [] := by cases rl; rfl
    have hl2 := e2 _ _ hl1
    have hIn : incs g g' ≠ [] := incs_ne ho.inc.ne1
    have nel : ∀ {H' : Hp} {b : Addr} {vs : List V}, H' l = some (.lst []) → H' b = some (.lst vs) → FpAll c.K H' vs ((incs g g').map fun q => numD q) → b ≠ l := by
      rintro H' b vs h1 h2 h3 rfl
      rw [h1] at h2
      obtain rfl : vs = [] := by simpa using h2.symm
      have := h3.length
      rw [List.length_map] at this
      exact hIn (List.length_eq_zero_iff.mp this.symm)
    have hne0 := nel hl2 ha0 hx0
    have r3 : Kp c H2 (.ref a0) (.l ((incs g g').map fun q => numD q)) := ⟨a0, us, rfl, ha0, hx0⟩
    refine n_forEnL (fun q => numD q) (incs g g') (ev_var rfl r3) fun a vs H3 e3 ha hax => ⟨fun j σ' H' => ∃ w4 w5 w6 w7 w8 w9 w10 w11 w12 w13 w14 acc pre, σ' = [some v0, some v1, some (.ref l), some (.ref a0), w4, w5, w6, w7, w8, w9, w10, w11, w12, w13, w14] ∧ Ex H H' ∧ Tx H3 H' ∧ H' a = some (.lst vs) ∧ H' a0 = some (.lst us) ∧ H' l = some (.lst acc) ∧ FpAll c.K H' acc (pre.map nodeD) ∧ pre ++ larN g g' ((incs g g').drop j) = larN g g' (incs g g'), ?_, ?_, ?_, ?_⟩
    · exact ⟨none, none, none, none, none, none, none, none, none, none, none, [], [], rfl, (e1.trans e2).trans e3, Tx.refl _, ha, e3 _ _ ha0, e3 _ _ hl2, .nil, rfl⟩
    · rintro j σ' H' ⟨w4, w5, w6, w7, w8, w9, w10, w11, w12, w13, w14, acc, pre, _, _, h1, h2, _⟩
      exact ⟨h1, h2⟩
    · have hne := nel (e3 _ _ hl2) ha hax
      have hz := ho.ok.len
      rintro j y v σ' H' H4 hj ⟨w4, w5, w6, w7, w8, w9, w10, w11, w12, w13, w14, acc, pre, rfl, x1, x2, x3, x4, x5, x6, x7⟩ e4 rv
      have hy : y ∈ incs g g' := List.mem_of_getElem? hj
      have rv : Kp c H4 v (.d (numD y)) := rv
      have s0 := r0.mono (x1.trans e4)
      have s1 := r1.mono (x1.trans e4)
      have nF := ho.n1 y hy
      have nG := ho.n2 y hy
      have cr := ho.cr y hy
      have ln := ho.ln y hy
      rw [drop_cons hj] at x7
      rw [larN_cons, List.head?_drop] at x7
      have hpre : pre.length + 1 + (larX g g' y (incs g g')[j + 1]?).length ≤ 1000 := by
        have := congrArg List.length x7
        simp only [List.length_append, List.length_cons] at this
        omega
      refine n_tup3 (ev_call (ea_cons (ev_nodes T (ev_var rfl s0)) (ea_cons (ev_var rfl rv) ea_nil)) nF.ok.r) fun v6 v7 v8 H5 e5 r6 r7 r8 => ?_
      have r6 : Kp c H5 v6 (.d (numD (vl g y))) := r6
      have r7 : Kp c H5 v7 (.d (numD (st g y))) := r7
      have r8 : Kp c H5 v8 (.d (numD (sl g y))) := r8
      have s1 := s1.mono e5
      have rv := rv.mono e5
      refine n_tup3 (ev_call (ea_cons (ev_nodes T (ev_var rfl s1)) (ea_cons (ev_var rfl rv) ea_nil)) nG.ok.r) fun v9 v10 v11 H6 e6 r9 r10 r11 => ?_
      have r9 : Kp c H6 v9 (.d (numD (vl g' y))) := r9
      have r10 : Kp c H6 v10 (.d (numD (st g' y))) := r10
      have r11 : Kp c H6 v11 (.d (numD (sl g' y))) := r11
      have rv := rv.mono e6
      have r6 := r6.mono e6
      have r7 := r7.mono e6
      have r8 := r8.mono e6
      have e46 := (e4.trans e5).trans e6
      have l6 := e46 _ _ x5
      have f6 := x6.mono (Tx.of e46)
      refine n_app (d := nodeD (larNd g g' y)) l6 f6 (by rw [List.length_map]; omega) rfl (ev_is (ev_catT (ds := [numD y, numD (lar (vl g y) (vl g' y))]) (ev_tup (ed_cons (ev_var rfl rv) (ed_cons (ev_call (ea_cons (ev_var rfl r6) (ea_cons (ev_var rfl r9) ea_nil)) ⟨_, _, rfl, nF.v, nG.v, rfl⟩) ed_nil))) (ev_call (ea_cons (ev_tup (ed_cons (ev_var rfl r7) (ed_cons (ev_var rfl r8) ed_nil))) (ea_cons (ev_tup (ed_cons (ev_var rfl r10) (ed_cons (ev_var rfl r11) ed_nil))) ea_nil)) ⟨_, _, _, _, rfl, nF.s, nF.k, nG.s, nG.k, rfl⟩) (by simp) (by simp) (by simp)) rfl) fun vn H7 e7 f7 => ?_
      have l7 := e7 _ _ l6
      have t7 : Tx H6 (upd H7 l (.lst (acc ++ [vn]))) := (Tx.of e7).trans (Tx.upd l7)
      have X7 : Ex H (upd H7 l (.lst (acc ++ [vn]))) := Ex.mut ((x1.trans e46).trans e7) hl0
      have T7 : Tx H3 (upd H7 l (.lst (acc ++ [vn]))) := (x2.trans (Tx.of e46)).trans t7
      have A7 : upd H7 l (.lst (acc ++ [vn])) a = some (.lst vs) := by rw [upd_ne hne]; exact e7 _ _ (e46 _ _ x3)
      have B7 : upd H7 l (.lst (acc ++ [vn])) a0 = some (.lst us) := by rw [upd_ne hne0]; exact e7 _ _ (e46 _ _ x4)
      have L7 : upd H7 l (.lst (acc ++ [vn])) l = some (.lst (acc ++ [vn])) := upd_same
      have rv : Kp c _ _ (.d (numD (y))) := Fp.mono t7 rv
      have r7 : Kp c _ _ (.d (numD (st g y))) := Fp.mono t7 r7
      have r8 : Kp c _ _ (.d (numD (sl g y))) := Fp.mono t7 r8
      have r6 : Kp c _ _ (.d (numD (vl g y))) := Fp.mono t7 r6
      have r10 : Kp c _ _ (.d (numD (st g' y))) := Fp.mono t7 r10
      have r11 : Kp c _ _ (.d (numD (sl g' y))) := Fp.mono t7 r11
      have F7 : FpAll c.K (upd H7 l (.lst (acc ++ [vn]))) (acc ++ [vn]) ((pre ++ [larNd g g' y]).map nodeD) := by
        rw [List.map_append]
        exact f7
      generalize upd H7 l (.lst (acc ++ [vn])) = H8 at X7 T7 A7 B7 L7 rv r6 r7 r8 r10 r11 F7
      refine n_asg (ev_call (ea_cons (ev_var rfl rv) (ea_cons (ev_tup (ed_cons (ev_var rfl r7) (ed_cons (ev_var rfl r8) ed_nil))) (ea_cons (ev_tup (ed_cons (ev_var rfl r10) (ed_cons (ev_var rfl r11) ed_nil))) ea_nil))) ⟨y, _, _, _, _, rfl, cr, rfl⟩) fun vc H9 e9 rc => ?_
      cases hc : cross y (st g y) (sl g y) (st g' y) (sl g' y) with
      | none =>
        rw [hc] at rc
        rw [larX_none hc] at x7
        refine s_ifF (et_and (a := false) (b := false) (et_test (ev_notN (ev_var rfl rc))) fun z => nomatch z) fun Ha ea => ?_
        exact ⟨_, _, _, _, _, _, _, _, _, _, _, acc ++ [vn], pre ++ [larNd g g' y], rfl, (X7.trans e9).trans ea, T7.trans (Tx.of (e9.trans ea)), ea _ _ (e9 _ _ A7), ea _ _ (e9 _ _ B7), ea _ _ (e9 _ _ L7), F7.mono (Tx.of (e9.trans ea)), by rw [List.append_assoc]; exact x7⟩
      | some z =>
        rw [hc] at rc
        have hsl := ln z hc
        have rc : Kp c H9 vc (.d (numD z)) := rc
        have B9 := e9 _ _ B7
        have hx9 : FpAll c.K H9 us ((incs g g').map fun q => numD q) := hx0.mono (((Tx.of e3).trans T7).trans (Tx.of e9))
        have hm : (incs g g')[j + 1]? = none → ((j : Int) + 1) = ((incs g g').length : Int) := by
          intro q
          have h1 := (List.getElem?_eq_some_iff.mp hj).1
          have h2 := List.getElem?_eq_none_iff.mp q
          omega
        have hs : ∀ u, (incs g g')[j + 1]? = some u → ¬ ((j : Int) + 1) = ((incs g g').length : Int) := by
          intro u q
          have h2 := (List.getElem?_eq_some_iff.mp q).1
          omega
        have ra0 : Kp c H9 (.ref a0) (.l ((incs g g').map fun q => numD q)) := ⟨a0, us, rfl, B9, hx9⟩
        refine s_ifE (b := (match (incs g g')[j + 1]? with | none => true | some u => decide (z < u))) (et_is (et_and (a := true) (b := (match (incs g g')[j + 1]? with | none => true | some u => decide (z < u))) (et_test (ev_notN (ev_var rfl rc))) fun _ => ?_) (Bool.true_and _)) (fun hb Ha ea => ?_) fun hb Ha ea => ?_
        · cases hq : (incs g g')[j + 1]? with
          | none =>
            refine et_or (a := true) (b := true) (et_test (ev_is (ev_eqD (ev_I0 (g := fun i j => i + j) (ev_var rfl (Fp.int _)) ev_int) (ev_lenL (ev_var rfl ra0)) (.d _) (.d _) rfl rfl) ?_)) fun z => nomatch z
            rw [eqv_int, List.length_map, decide_eq_true (hm hq)]
          | some u =>
            refine et_or (a := false) (et_test (ev_is (ev_eqD (ev_I0 (g := fun i j => i + j) (ev_var rfl (Fp.int _)) ev_int) (ev_lenL (ev_var rfl ra0)) (.d _) (.d _) rfl rfl) ?_)) fun _ => et_val (ev_call (ea_cons (ev_var rfl rc) (ea_cons (ev_ixL (ev_var rfl ra0) (ev_I0 (g := fun i j => i + j) (ev_var rfl (Fp.int _)) ev_int) ?_) ea_nil)) ⟨z, u, rfl, hsl.hy, ?_, rfl⟩)
            · rw [eqv_int, List.length_map, decide_eq_false (hs u hq)]
            · refine atI_nat (j := j + 1) ?_
              rw [List.getElem?_map, hq]
              rfl
            · exact (ho.cr u (List.mem_of_getElem? hq)).hy
        · have hb : (match (incs g g')[j + 1]? with | none => true | some u => decide (z < u)) = true := hb
          have x7 := x7
          rw [larX_yes hc hb] at x7 hpre
          have e9a := e9.trans ea
          have rv := rv.mono e9a
          have r6 := r6.mono e9a
          have r7 := r7.mono e9a
          have r8 := r8.mono e9a
          have r11 := r11.mono e9a
          have rc := rc.mono ea
          refine n_asg (ev_call (ea_cons (ev_tup (ed_cons (ev_var (kd := .d _) rfl rv) (ed_cons (ev_var (kd := .d _) rfl r6) (ed_cons (ev_var (kd := .d _) rfl r7) (ed_cons (ev_var (kd := .d _) rfl r8) ed_nil))))) (ea_cons (ev_var rfl rc) ea_nil)) ⟨⟨y, vl g y, st g y, sl g y⟩, z, rfl, hsl, rfl⟩) fun vt Hb eb rt => ?_
          refine n_asg (kd := .d (numD (if sl g y < sl g' y then sl g' y else sl g y))) (ev_if (b := decide (sl g y < sl g' y)) (et_val (ev_call (ea_cons (ev_var (kd := .d _) rfl (Fp.mono (Tx.of eb) r8)) (ea_cons (ev_var (kd := .d _) rfl (Fp.mono (Tx.of eb) r11)) ea_nil)) ⟨_, _, rfl, nF.k, nG.k, rfl⟩)) (fun hc => ev_is (ev_var (kd := .d _) rfl (Fp.mono (Tx.of eb) r11)) ?_) fun hc => ev_is (ev_var (kd := .d _) rfl (Fp.mono (Tx.of eb) r8)) ?_) fun vs' Hc ec rs => ?_
          · rw [if_pos (of_decide_eq_true hc)]
          · rw [if_neg (of_decide_eq_false hc)]
          · have ecc := (e9a.trans eb).trans ec
            refine s_app (d := nodeD ⟨z, lineAt ⟨y, vl g y, st g y, sl g y⟩ z, lineAt ⟨y, vl g y, st g y, sl g y⟩ z, if sl g y < sl g' y then sl g' y else sl g y⟩) (ecc _ _ L7) (F7.mono (Tx.of ecc)) (by simp only [List.length_map, List.length_append, List.length_cons, List.length_nil] at hpre ⊢; omega) rfl (ev_tup (ed_cons (ev_var rfl ((rc.mono eb).mono ec)) (ed_cons (ev_var rfl (rt.mono ec)) (ed_cons (ev_var rfl (rt.mono ec)) (ed_cons (ev_var rfl rs) ed_nil))))) fun vm Hd ed fd => ?_
            have le := ed _ _ (ecc _ _ L7)
            have eE := ecc.trans ed
            refine ⟨_, _, _, _, _, _, _, _, _, _, _, (acc ++ [vn]) ++ [vm], (pre ++ [larNd g g' y]) ++ [⟨z, lineAt ⟨y, vl g y, st g y, sl g y⟩ z, lineAt ⟨y, vl g y, st g y, sl g y⟩ z, if sl g y < sl g' y then sl g' y else sl g y⟩], rfl, Ex.mut (X7.trans eE) hl0, T7.trans ((Tx.of eE).trans (Tx.upd le)), ?_, ?_, upd_same, ?_, ?_⟩
            · rw [upd_ne hne]; exact eE _ _ A7
            · rw [upd_ne hne0]; exact eE _ _ B7
            · rw [List.map_append]; exact fd
            · rw [List.append_assoc, List.append_assoc]; exact x7
        · have x7 := x7
          rw [larX_no hc hb] at x7
          have ea' := e9.trans ea
          exact ⟨_, _, _, _, _, _, _, _, _, _, _, acc ++ [vn], pre ++ [larNd g g' y], rfl, X7.trans ea', T7.trans (Tx.of ea'), ea' _ _ A7, ea' _ _ B7, ea' _ _ L7, F7.mono (Tx.of ea'), by rw [List.append_assoc]; exact x7⟩
    · rintro σ' H' ⟨w4, w5, w6, w7, w8, w9, w10, w11, w12, w13, w14, acc, pre, rfl, x1, x2, x3, x4, x5, x6, x7⟩
      rw [List.drop_length] at x7
      rw [show pre ++ larN g g' [] = pre from List.append_nil _] at x7
      subst x7
      exact s_ret (ev_make (ev_var (kd := .l ((larN g g' (incs g g')).map nodeD)) rfl ⟨l, acc, rfl, x5, x6⟩) ho.ok) fun v H3 e3 r => k v H3 (x1.trans e3) r
def R_larger (ks : List KD) (kd : KD) : Prop := ∃ f g : List Nd, ks = [.c f, .c g] ∧ LarOk f g ∧ kd = .c (larC f g)
theorem c_larger (T : Txt c mg aZ aT) (S : SrcM c.K c.C "larger" "Curve.larger" t_mlarger ["self", "other"]) (c_larger_curve : Def P w c.K mg base "larger_curve" ["first", "second"] 8 (spF c R_larger_curve)) :
    DefM P w c.K mg base c.C "larger" ["self", "other"] 9 (spF c R_larger) := S.ok fun f fd F => by
  refine F.ok sc_mlarger (fun vs H Q E h => ?_) (fun cdv A outer s H vs Q E hr h => ?_)
  · obtain ⟨_, _, hk, ⟨p, _, rfl, _⟩, _⟩ := h
    exact hk.length
  · obtain ⟨_, _, hk, ⟨g, g', rfl, ho, rfl⟩, k⟩ := h
    obtain ⟨v0, v1, rfl, r0, r1⟩ := KpAll.two hk
    refine ⟨_, (pss_one (ps_ret (c_larger_curve.pe (hr.mono (by decide)) (by rfl) (pa_cons (pv 0) (pa_cons (pv 1) pa_nil))))), ?_⟩
    exact s_ret (ev_call (ea_cons (ev_var rfl r0) (ea_cons (ev_var rfl r1) ea_nil)) ⟨g, g', rfl, ho, rfl⟩) k
end
end K66
set_option Elab.async false
set_option linter.all false
set_option autoImplicit false
set_option maxRecDepth 100000
set_option maxHeartbeats 4000000
/-! K6: the highest so far; rates. -/
namespace K66
open PySem PySem.Spec PyProof.Rows L2
open Evl (Ex EvT)
/-- a list of nodes whose numbers are so small that the highest so far can be reckoned -/
structure HsOk (f : List Nd) (N X S : Nat) : Prop where
  big : 2 * N + X + S + 10 ≤ 4000
  ne : f ≠ []
  len : f.length ≤ 400
  x : ∀ n ∈ f, Ht X n.x
  v : ∀ n ∈ f, Ht N n.v
  s : ∀ n ∈ f, Ht N n.s
  k : ∀ n ∈ f, Ht S n.k
  ln : ∀ n ∈ f, ∀ m ∈ f, SmL n m.x ∧ Ht N (lineAt n m.x)
  ok : OkN (hsN (f.head?.getD n0).v f)
section
variable {P : Program} {w : World} {c : Cv} {mg : Str → Option Value} {base : Heap} {aZ aT : Addr}
def cutD (o : Option Nd) : PyData := match o with
  | none => .tuple [.int 1, numD 0, .int 0]
  | some u => .tuple [.int 0, numD u.x, .int 0]
def R_inside_cuts (ks : List KD) (kd : KD) : Prop := ∃ (f : List Nd) (j : Nat) (m : Nd), ks = [.c f, .d (.int (j : Int))] ∧ f[j]? = some m ∧ kd = .d (.tuple [.tuple [.int 0, numD m.x, .int 1], cutD f[j + 1]?])
theorem c_inside_cuts (T : Txt c mg aZ aT) (S : Src c.K mg "inside_cuts" t_inside_cuts ["curve", "place"]) (c_below : Def P w c.K mg base "below" ["number"] 1 (spF c R_below)) (c_above : Def P w c.K mg base "above" ["number"] 1 (spF c R_above)) :
    Def P w c.K mg base "inside_cuts" ["curve", "place"] 2 (spF c R_inside_cuts) := S.ok fun f fd F => by
  refine F.ok sc_inside_cuts (fun vs H Q E h => ?_) (fun cdv A outer s H vs Q E hr h => ?_)
  · obtain ⟨_, _, hk, ⟨_, _, _, rfl, _⟩, _⟩ := h
    exact hk.length
  · obtain ⟨_, _, hk, ⟨g, j, m, rfl, hm, rfl⟩, k⟩ := h
    obtain ⟨v0, v1, rfl, r0, r1⟩ := KpAll.two hk
    refine ⟨_, (pss_cons (ps_set (i := 2) sc_inside_cuts.nd rfl (Or.inl rfl) (pe_ifExp (pt_cmpR op_lt (pe_op op_add (pv 1) pe_int) (pe_callB (kLen c.K rfl) (by rfl) T.len (by decide +kernel) (pa_cons (peF c.K rfl (pv 0) rfl) pa_nil)) (nomark _)) (c_below.pe (hr.mono (by decide)) (by rfl) (pa_cons (pe_ix (ixT c.K rfl) (pe_ix (ixT c.K rfl) (peF c.K rfl (pv 0) rfl) (pe_op op_add (pv 1) pe_int) (fun _ _ => rfl)) pe_int (fun _ _ => rfl)) pa_nil)) (pe_glob (v := .ref aT) (by rfl) T.mgTOP rfl)))
      (pss_one (ps_ret (pe_tup (pa_cons (c_above.pe (hr.mono (by decide)) (by rfl) (pa_cons (pe_ix (ixT c.K rfl) (pe_ix (ixT c.K rfl) (peF c.K rfl (pv 0) rfl) (pv 1) (fun _ _ => rfl)) pe_int (fun _ _ => rfl)) pa_nil)) (pa_cons (pv 2) pa_nil)))))), ?_⟩
    have hj := (List.getElem?_eq_some_iff.mp hm).1
    refine n_asg (kd := .d (cutD g[j + 1]?)) (ev_if (b := decide ((j : Int) + 1 < (g.length : Int))) (et_test (ev_B0 (g := fun i j => decide (i < j)) (ev_I0 (g := fun i j => i + j) (ev_var rfl r1) ev_int) (ev_lenT (ev_nodes T (ev_var rfl r0)) (by rw [List.length_map])))) (fun hb => ?_) fun hb => ev_is (ev_glob (kd := .d (.tuple [.int 1, numD 0, .int 0])) (T.top H)) ?_) fun v2 H1 e1 r2 => ?_
    · have hlt : j + 1 < g.length := by have := of_decide_eq_true hb; omega
      have e : g[j + 1]? = some g[j + 1] := List.getElem?_eq_getElem hlt
      refine ev_is (ev_call (R := R_below) (ea_cons (ev_ixT (ev_ixT (ds := g.map nodeD) (d := nodeD g[j + 1]) (ev_nodes T (ev_var rfl r0)) (ev_I0 (g := fun i j => i + j) (ev_var rfl r1) ev_int) ?_) ev_int (atI_nat (j := 0) rfl)) ea_nil) ⟨g[j + 1].x, rfl, rfl⟩) ?_
      · refine atI_nat (j := j + 1) ?_
        rw [List.getElem?_map, e]
        rfl
      · rw [e]
        rfl
    · have hlt : ¬ j + 1 < g.length := by have := of_decide_eq_false hb; omega
      rw [List.getElem?_eq_none_iff.mpr (by omega)]
      rfl
    · refine s_ret (ev_tup (ed_cons (ev_call (ea_cons (ev_ixT (ev_ixT (ds := g.map nodeD) (d := nodeD m) (ev_nodes T (ev_var rfl (r0.mono e1))) (ev_var rfl (r1.mono e1)) ?_) ev_int (atI_nat (j := 0) rfl)) ea_nil) ⟨m.x, rfl, rfl⟩) (ed_cons (ev_var rfl r2) ed_nil))) fun v H2 e2 r => k v H2 (e1.trans e2) r
      refine atI_nat (j := j) ?_
      rw [List.getElem?_map, hm]
      rfl
theorem hsN_cons (h : Rat) (n : Nd) (t : List Nd) : hsN h (n :: t) = hsNd h n :: (hsX h n (t.head?.map (·.x)) ++ hsN (hsH h n (t.head?.map (·.x))) t) := rfl
theorem hsX_flat {h : Rat} {n : Nd} {nx : Option Rat} (hb : decide (0 < n.k) = false) : hsX h n nx = [] := by
  unfold hsX
  rw [hb]
  rfl
theorem hsX_follows {h : Rat} {n : Nd} {nx : Option Rat} (hb : hsFollows h n = true) : hsX h n nx = [] := by
  unfold hsX
  rw [hb, Bool.not_true, Bool.and_false]
  rfl
theorem hsX_yes {h : Rat} {n : Nd} {nx : Option Rat} (h1 : decide (0 < n.k) = true) (h2 : hsFollows h n = false) (hb : (match nx with | none => true | some u => decide (hsZ h n < u)) = true) : hsX h n nx = [⟨hsZ h n, hsStart h n, hsStart h n, n.k⟩] := by
  unfold hsX
  rw [h1, h2]
  exact if_pos hb
theorem hsX_no {h : Rat} {n : Nd} {nx : Option Rat} (h1 : decide (0 < n.k) = true) (h2 : hsFollows h n = false) (hb : (match nx with | none => true | some u => decide (hsZ h n < u)) = false) : hsX h n nx = [] := by
  unfold hsX
  rw [h1, h2]
  exact if_neg fun e => Bool.false_ne_true (hb.symm.trans e)
theorem hsH_flat {h : Rat} {n : Nd} {nx : Option Rat} (hb : decide (0 < n.k) = false) : hsH h n nx = hsStart h n := by
  unfold hsH
  rw [hb]
  rfl
theorem hsH_none {h : Rat} {n : Nd} (hb : decide (0 < n.k) = true) : hsH h n none = hsStart h n := by
  unfold hsH
  rw [hb]
  rfl
theorem hsH_some {h u : Rat} {n : Nd} (hb : decide (0 < n.k) = true) : hsH h n (some u) = lar (hsStart h n) (lineAt n u) := by
  unfold hsH
  rw [hb]
  rfl
def R_highest_so_far (ks : List KD) (kd : KD) : Prop := ∃ (f : List Nd) (N X S : Nat), ks = [.c f] ∧ HsOk f N X S ∧ kd = .c (hsC f)
theorem c_highest_so_far (T : Txt c mg aZ aT) (S : Src c.K mg "highest_so_far" t_highest_so_far ["curve"]) (c_Curve : DefM P w c.K mg base c.C "__init__" ["self", "nodes"] 6 (spInit c)) (c_larger_of : Def P w c.K mg base "larger_of" ["first", "second"] 2 (spF c R_larger_of)) (c_is_less : Def P w c.K mg base "is_less" ["first", "second"] 1 (spF c R_is_less)) (c_plus : Def P w c.K mg base "plus" ["first", "second"] 3 (spF c R_plus)) (c_comes_before : Def P w c.K mg base "comes_before" ["first", "second"] 2 (spF c R_comes_before)) (c_quotient : Def P w c.K mg base "quotient" ["first", "second"] 3 (spF c R_quotient)) (c_below : Def P w c.K mg base "below" ["number"] 1 (spF c R_below)) (c_reached_by : Def P w c.K mg base "reached_by" ["node", "income"] 5 (spF c R_reached_by)) (c_minus : Def P w c.K mg base "minus" ["first", "second"] 4 (spF c R_minus)) (c_inside_cuts : Def P w c.K mg base "inside_cuts" ["curve", "place"] 2 (spF c R_inside_cuts)) :
    Def P w c.K mg base "highest_so_far" ["curve"] 8 (spF c R_highest_so_far) := S.ok fun f fd F => by
  refine F.ok sc_highest_so_far (fun vs H Q E h => ?_) (fun cdv A outer s H vs Q E hr h => ?_)
  · obtain ⟨_, _, hk, ⟨_, _, _, _, rfl, _⟩, _⟩ := h
    exact hk.length
  · obtain ⟨_, _, hk, ⟨g, N, X, S, rfl, ho, rfl⟩, k⟩ := h
    obtain ⟨v0, rfl, r0⟩ := KpAll.one hk
    refine ⟨_, (pss_cons (ps_par (i := 1) (j := 2) (by rfl) sc_highest_so_far.nd rfl rfl (by decide) rfl rfl (pa_cons (pe_lst pa_nil) (pa_cons (pe_ix (ixT c.K rfl) (pe_ix (ixT c.K rfl) (peF c.K rfl (pv 0) rfl) pe_int (fun _ _ => rfl)) pe_int (fun _ _ => rfl)) pa_nil)) (by rfl))
      (pss_cons (ps_for PassesOwn.never rfl (piEnT c.K rfl (by rfl) T.enumerate (pa_cons (peF c.K rfl (pv 0) rfl) pa_nil)) (pg_tup rfl (pgs_cons (pg_name (i := 3) sc_highest_so_far.nd rfl (Or.inl rfl)) (pgs_cons (pg_name (i := 4) sc_highest_so_far.nd rfl (Or.inl rfl)) pgs_nil))) (pss_cons (ps_set (i := 2) sc_highest_so_far.nd rfl (Or.inl rfl) (c_larger_of.pe (hr.mono (by decide)) (by rfl) (pa_cons (pv 2) (pa_cons (pe_ix (ixT c.K rfl) (pv 4) pe_int (fun _ _ => rfl)) pa_nil))))
      (pss_cons (ps_set (i := 5) sc_highest_so_far.nd rfl (Or.inl rfl) (c_larger_of.pe (hr.mono (by decide)) (by rfl) (pa_cons (pv 2) (pa_cons (pe_ix (ixT c.K rfl) (pv 4) pe_int (fun _ _ => rfl)) pa_nil))))
      (pss_cons (ps_set (i := 6) sc_highest_so_far.nd rfl (Or.inl rfl) (c_is_less.pe (hr.mono (by decide)) (by rfl) (pa_cons (pe_glob (v := .ref aZ) (by rfl) T.mgZERO rfl) (pa_cons (pe_ix (ixT c.K rfl) (pv 4) pe_int (fun _ _ => rfl)) pa_nil))))
      (pss_cons (ps_set (i := 7) sc_highest_so_far.nd rfl (Or.inl rfl) (pe_and (pv 6) (pe_one (pe_cmpR (oEqD c.K rfl hr.units) (pv 5) (pe_ix (ixT c.K rfl) (pv 4) pe_int (fun _ _ => rfl)) (nomark _)))))
      (pss_cons (ps_expr (pe_bm PySem.F.plainAttrs_list PySem.F.slot_list_append PySem.F.type_list_append mt_append (pv 1) (pa_cons (pe_tup (pa_cons (pe_ix (ixT c.K rfl) (pv 4) pe_int (fun _ _ => rfl)) (pa_cons (pv 2) (pa_cons (pv 5) (pa_cons (pe_ifExp (pt_val (pv 7)) (pe_ix (ixT c.K rfl) (pv 4) pe_int (fun _ _ => rfl)) (pe_glob (v := .ref aZ) (by rfl) T.mgZERO rfl)) pa_nil))))) pa_nil)))
      (pss_cons (ps_set (i := 2) sc_highest_so_far.nd rfl (Or.inl rfl) (pv 5))
      (pss_one (ps_if (pt_val (pv 6)) (pss_cons (ps_if (pt_not (pt_val (pv 7))) (pss_cons (ps_set (i := 8) sc_highest_so_far.nd rfl (Or.inl rfl) (c_plus.pe (hr.mono (by decide)) (by rfl) (pa_cons (pe_ix (ixT c.K rfl) (pv 4) pe_int (fun _ _ => rfl)) (pa_cons (c_quotient.pe (hr.mono (by decide)) (by rfl) (pa_cons (c_minus.pe (hr.mono (by decide)) (by rfl) (pa_cons (pv 5) (pa_cons (pe_ix (ixT c.K rfl) (pv 4) pe_int (fun _ _ => rfl)) pa_nil))) (pa_cons (pe_ix (ixT c.K rfl) (pv 4) pe_int (fun _ _ => rfl)) pa_nil))) pa_nil))))
      (pss_one (ps_if (pt_val (c_comes_before.pe (hr.mono (by decide)) (by rfl) (pa_cons (c_below.pe (hr.mono (by decide)) (by rfl) (pa_cons (pv 8) pa_nil)) (pa_cons (pe_ix (ixT c.K rfl) (c_inside_cuts.pe (hr.mono (by decide)) (by rfl) (pa_cons (pv 0) (pa_cons (pv 3) pa_nil))) pe_int (fun _ _ => rfl)) pa_nil)))) (pss_one (ps_expr (pe_bm PySem.F.plainAttrs_list PySem.F.slot_list_append PySem.F.type_list_append mt_append (pv 1) (pa_cons (pe_tup (pa_cons (pv 8) (pa_cons (pv 5) (pa_cons (pv 5) (pa_cons (pe_ix (ixT c.K rfl) (pv 4) pe_int (fun _ _ => rfl)) pa_nil))))) pa_nil)))) pss_nil))) pss_nil)
      (pss_one (ps_if (pt_cmpR op_lt (pe_op op_add (pv 3) pe_int) (pe_callB (kLen c.K rfl) (by rfl) T.len (by decide +kernel) (pa_cons (peF c.K rfl (pv 0) rfl) pa_nil)) (nomark _)) (pss_one (ps_set (i := 2) sc_highest_so_far.nd rfl (Or.inl rfl) (c_larger_of.pe (hr.mono (by decide)) (by rfl) (pa_cons (pv 5) (pa_cons (c_reached_by.pe (hr.mono (by decide)) (by rfl) (pa_cons (pv 4) (pa_cons (pe_ix (ixT c.K rfl) (pe_ix (ixT c.K rfl) (peF c.K rfl (pv 0) rfl) (pe_op op_add (pv 3) pe_int) (fun _ _ => rfl)) pe_int (fun _ _ => rfl)) pa_nil))) pa_nil))))) pss_nil))) pss_nil)))))))))
      (pss_one (ps_ret (c_Curve.mk T rfl (hr.mono (by decide)) (by rfl) (pa_cons (pv 1) pa_nil)))))), ?_⟩
    have hbig := ho.big
    have sN : ∀ {q : Rat}, Ht N q → Sm q := fun h => h.mono (by omega)
    obtain ⟨a, t, rfl⟩ : ∃ a t, g = a :: t := by
      cases g with
      | nil => exact absurd rfl ho.ne
      | cons a t => exact ⟨a, t, rfl⟩
    have hok := ho.ok
    rw [show ((a :: t).head?.getD n0).v = a.v from rfl] at hok
    refine n_parF (kd := .d (numD a.v)) (ef_lst (c := c) ed_nil) (ev_ixT (ev_ixT (ds := (a :: t).map nodeD) (d := nodeD a) (ev_nodes T (ev_var rfl r0)) ev_int (atI_nat (j := 0) rfl)) ev_int (atI_nat (j := 1) rfl)) fun l vs0 v2 H1 hl0 e1 hl1 rl r2 => ?_
    obtain rfl : vs0 = [] := by cases rl; rfl
    refine n_forEnT nodeD (a :: t) (ev_nodes T (ev_var rfl (r0.mono e1))) fun H2 e2 => ⟨fun j σ' H' => ∃ vh w3 w4 w5 w6 w7 w8 acc pre h, σ' = [some v0, some (.ref l), some vh, w3, w4, w5, w6, w7, w8] ∧ Ex H H' ∧ Tx H2 H' ∧ H' l = some (.lst acc) ∧ FpAll c.K H' acc (pre.map nodeD) ∧ Kp c H' vh (.d (numD h)) ∧ Ht N h ∧ pre ++ hsN h ((a :: t).drop j) = hsN a.v (a :: t), ?_, ?_, ?_, ?_⟩
    · exact ⟨v2, none, none, none, none, none, none, [], [], a.v, rfl, e1.trans e2, Tx.refl _, e2 _ _ hl1, .nil, r2.mono e2, ho.v a List.mem_cons_self, rfl⟩
    · rintro j σ' H' ⟨vh, w3, w4, w5, w6, w7, w8, acc, pre, h, _, _, h1, _⟩
      exact h1
    · have hz := hok.len
      rintro j n v σ' H' H4 hj ⟨vh, w3, w4, w5, w6, w7, w8, acc, pre, h, rfl, x1, x2, x3, x4, x5, x6, x7⟩ e4 rv
      have hn : n ∈ a :: t := List.mem_of_getElem? hj
      have rv : Kp c H4 v (.d (nodeD n)) := rv
      have s0 := r0.mono (x1.trans e4)
      have rh := x5.mono e4
      have nv := ho.v n hn
      have ns := ho.s n hn
      have nk : Sm n.k := (ho.k n hn).mono (by omega)
      have hst : Ht N (hsStart h n) := (x6.lar nv).lar ns
      rw [drop_cons hj, hsN_cons, List.head?_drop] at x7
      have hpre : pre.length + 1 + (hsX h n ((a :: t)[j + 1]?.map (·.x))).length ≤ 1000 := by
        have := congrArg List.length x7
        simp only [List.length_append, List.length_cons] at this
        omega
      refine n_asg (ev_call (ea_cons (ev_var rfl rh) (ea_cons (ev_ixT (ev_var rfl rv) ev_int (atI_nat (j := 1) rfl)) ea_nil)) ⟨h, n.v, rfl, sN x6, sN nv, rfl⟩) fun v2' H5 e5 r2' => ?_
      have rv := rv.mono e5
      refine n_asg (kd := .d (numD (hsStart h n))) (ev_call (ea_cons (ev_var rfl r2') (ea_cons (ev_ixT (ev_var rfl rv) ev_int (atI_nat (j := 2) rfl)) ea_nil)) ⟨lar h n.v, n.s, rfl, sN (x6.lar nv), sN ns, rfl⟩) fun v5 H6 e6 r5 => ?_
      have rv := rv.mono e6
      have r2' := r2'.mono e6
      refine n_asg (ev_call (ea_cons (ev_glob (kd := .d (numD 0)) (T.zero H6)) (ea_cons (ev_ixT (ev_var rfl rv) ev_int (atI_nat (j := 3) rfl)) ea_nil)) ⟨0, n.k, rfl, ht_zero.mono (by decide), nk, rfl⟩) fun v6 H7 e7 r6 => ?_
      have rv := rv.mono e7
      have r2' := r2'.mono e7
      have r5 := r5.mono e7
      refine n_asg (kd := .d (.bool (hsFollows h n))) (ev_andV (ev_var rfl r6) fun _ => ev_is (ev_eqD (ev_var rfl r5) (ev_ixT (ev_var rfl rv) ev_int (atI_nat (j := 2) rfl)) (.d _) (.d _) rfl rfl) (by rw [eqv_num])) fun v7 H8 e8 r7 => ?_
      have rv := rv.mono e8
      have r2' := r2'.mono e8
      have r5 := r5.mono e8
      have r6 := r6.mono e8
      have e48 := (((e4.trans e5).trans e6).trans e7).trans e8
      refine n_app (d := nodeD (hsNd h n)) (e48 _ _ x3) (x4.mono (Tx.of e48)) (by rw [List.length_map]; omega) rfl (ev_tup (ed_cons (ev_ixT (ev_var rfl rv) ev_int (atI_nat (j := 0) rfl)) (ed_cons (ev_var rfl r2') (ed_cons (ev_var rfl r5) (ed_cons (ev_if (b := hsFollows h n) (et_val (ev_var rfl r7)) (fun hb => ev_is (ev_ixT (ev_var rfl rv) ev_int (atI_nat (j := 3) rfl)) ?_) fun hb => ev_is (ev_glob (kd := .d (numD 0)) (T.zero H8)) ?_) ed_nil))))) fun vn H9 e9 f9 => ?_
      · show KD.d (numD n.k) = KD.d (numD (if hsFollows h n = true then n.k else 0))
        rw [hb]; rfl
      · show KD.d (numD 0) = KD.d (numD (if hsFollows h n = true then n.k else 0))
        rw [hb]; rfl
      have l9 := e9 _ _ (e48 _ _ x3)
      have t9 : Tx H8 (upd H9 l (.lst (acc ++ [vn]))) := (Tx.of e9).trans (Tx.upd l9)
      have X9 : Ex H (upd H9 l (.lst (acc ++ [vn]))) := Ex.mut ((x1.trans e48).trans e9) hl0
      have T9 : Tx H2 (upd H9 l (.lst (acc ++ [vn]))) := (x2.trans (Tx.of e48)).trans t9
      have L9 : upd H9 l (.lst (acc ++ [vn])) l = some (.lst (acc ++ [vn])) := upd_same
      have rv : Kp c (upd H9 l (.lst (acc ++ [vn]))) v (.d (nodeD n)) := Fp.mono t9 rv
      have r5 : Kp c (upd H9 l (.lst (acc ++ [vn]))) v5 (.d (numD (hsStart h n))) := Fp.mono t9 r5
      have r6 : Kp c (upd H9 l (.lst (acc ++ [vn]))) v6 (.d (.bool (decide (0 < n.k)))) := Fp.mono t9 r6
      have r7 : Kp c (upd H9 l (.lst (acc ++ [vn]))) v7 (.d (.bool (hsFollows h n))) := Fp.mono t9 r7
      have F9 : FpAll c.K (upd H9 l (.lst (acc ++ [vn]))) (acc ++ [vn]) ((pre ++ [hsNd h n]).map nodeD) := by
        rw [List.map_append]
        exact f9
      generalize upd H9 l (.lst (acc ++ [vn])) = Ha at X9 T9 L9 rv r5 r6 r7 F9
      refine n_asg (ev_var rfl r5) fun vh2 Hb eb rh2 => ?_
      have X9 := X9.trans eb
      have T9 := T9.trans (Tx.of eb)
      have L9 := eb _ _ L9
      have rv := rv.mono eb
      have r5 := r5.mono eb
      have r6 := r6.mono eb
      have r7 := r7.mono eb
      have F9 := F9.mono (Tx.of eb)
      refine s_ifE (b := decide (0 < n.k)) (et_val (ev_var rfl r6)) (fun hk Hc ec => ?_) fun hk Hc ec => ?_
      · have rv := rv.mono ec
        have r5 := r5.mono ec
        have r7 := r7.mono ec
        have rh2 := rh2.mono ec
        refine n_mid (fun σ' H' => ∃ w8 acc' pre', σ' = [some v0, some (.ref l), some vh2, some (.int (j : Int)), some v, some v5, some v6, some v7, w8] ∧ Ex H H' ∧ Tx Hc H' ∧ H' l = some (.lst acc') ∧ FpAll c.K H' acc' (pre'.map nodeD) ∧ pre' ++ hsN (hsH h n ((a :: t)[j + 1]?.map (·.x))) ((a :: t).drop (j + 1)) = hsN a.v (a :: t)) ?_ fun fin => ?_
        · rintro σ' H' ⟨w8, acc', pre', rfl, y1, y2, y3, y4, y5⟩
          have rv : Kp c H' v (.d (nodeD n)) := Fp.mono y2 rv
          have r5 : Kp c H' v5 (.d (numD (hsStart h n))) := Fp.mono y2 r5
          have rh2 : Kp c H' vh2 (.d (numD (hsStart h n))) := Fp.mono y2 rh2
          have s0 := r0.mono y1
          refine s_ifE (b := decide ((j : Int) + 1 < ((a :: t).length : Int))) (et_test (ev_B0 (g := fun i j => decide (i < j)) (ev_I0 (g := fun i j => i + j) (ev_var rfl (Fp.int _)) ev_int) (ev_lenT (ev_nodes T (ev_var rfl s0)) (by rw [List.length_map])))) (fun hb Hd ed => ?_) fun hb Hd ed => ?_
          · have hlt : j + 1 < (a :: t).length := by have := of_decide_eq_true hb; omega
            have e : (a :: t)[j + 1]? = some (a :: t)[j + 1] := List.getElem?_eq_getElem hlt
            have hm : (a :: t)[j + 1] ∈ a :: t := List.getElem_mem hlt
            generalize (a :: t)[j + 1] = m at e hm
            rw [e] at y5
            have y5 : pre' ++ hsN (hsH h n (some m.x)) ((a :: t).drop (j + 1)) = hsN a.v (a :: t) := y5
            rw [hsH_some hk] at y5
            have hl := ho.ln n hn m hm
            refine s_asg (ev_call (ea_cons (ev_var rfl (r5.mono ed)) (ea_cons (ev_call (ea_cons (ev_var rfl (rv.mono ed)) (ea_cons (ev_ixT (ev_ixT (ds := (a :: t).map nodeD) (d := nodeD m) (ev_nodes T (ev_var rfl (s0.mono ed))) (ev_I0 (g := fun i j => i + j) (ev_var rfl (Fp.int _)) ev_int) ?_) ev_int (atI_nat (j := 0) rfl)) ea_nil)) ⟨n, m.x, rfl, hl.1, rfl⟩) ea_nil)) ⟨hsStart h n, lineAt n m.x, rfl, sN hst, sN hl.2, rfl⟩) fun vz He ee rz => ?_
            · refine atI_nat (j := j + 1) ?_
              rw [List.getElem?_map, e]
              rfl
            · have ede := ed.trans ee
              exact ⟨vz, _, _, _, _, _, _, acc', pre', _, rfl, y1.trans ede, ((T9.trans (Tx.of ec)).trans y2).trans (Tx.of ede), ede _ _ y3, y4.mono (Tx.of ede), rz, hst.lar hl.2, y5⟩
          · have hlt : ¬ j + 1 < (a :: t).length := by have := of_decide_eq_false hb; omega
            rw [List.getElem?_eq_none_iff.mpr (by omega)] at y5
            have y5 : pre' ++ hsN (hsH h n none) ((a :: t).drop (j + 1)) = hsN a.v (a :: t) := y5
            rw [hsH_none hk] at y5
            exact ⟨vh2, _, _, _, _, _, _, acc', pre', _, rfl, y1.trans ed, ((T9.trans (Tx.of ec)).trans y2).trans (Tx.of ed), ed _ _ y3, y4.mono (Tx.of ed), rh2.mono ed, hst, y5⟩
        · refine n_ifE (b := !hsFollows h n) (et_not (et_val (ev_var rfl r7))) (fun hf Hd ed => ?_) fun hf Hd ed => ?_
          · have hf : hsFollows h n = false := by simpa using hf
            have rv := rv.mono ed
            have r5 := r5.mono ed
            have nx : Sm n.x := (ho.x n hn).mono (by omega)
            have h1 : Ht (2 * N + 1) (hsStart h n - n.s) := (hst.sub ns).mono (by omega)
            have hk0 : n.k ≠ 0 := fun z => by
              have := of_decide_eq_true hk
              rw [z] at this
              exact absurd this Rat.lt_irrefl
            have h2 : Ht (2 * N + 1 + S) ((hsStart h n - n.s) / n.k) := h1.div (ho.k n hn) hk0
            have h3 : Ht 4000 (hsZ h n) := ((ho.x n hn).add h2).mono (by omega)
            refine n_asg (kd := .d (numD (hsZ h n))) (ev_call (ea_cons (ev_ixT (ev_var rfl rv) ev_int (atI_nat (j := 0) rfl)) (ea_cons (ev_call (ea_cons (ev_call (ea_cons (ev_var rfl r5) (ea_cons (ev_ixT (ev_var rfl rv) ev_int (atI_nat (j := 2) rfl)) ea_nil)) ⟨_, _, rfl, sN hst, sN ns, rfl⟩) (ea_cons (ev_ixT (ev_var rfl rv) ev_int (atI_nat (j := 3) rfl)) ea_nil)) ⟨_, _, rfl, h1.mono (by omega), nk, hk0, rfl⟩) ea_nil)) ⟨n.x, _, rfl, nx, h2.mono (by omega), rfl⟩) fun vc He ee rc => ?_
            have edc := (ec.trans ed).trans ee
            have s0 := r0.mono (X9.trans edc)
            have rj : Kp c He (.int (j : Int)) (.d (.int (j : Int))) := Fp.int _
            have hcut : EvK c (tOp (rIxT c.K) (tCall (spF c R_inside_cuts) [] E0 (tCons (tVar 0) (tCons (tVar 3) tNil))) (tC (.int 1))) [some v0, some (.ref l), some vh2, some (.int (j : Int)), some v, some v5, some v6, some v7, some vc] He (.d (cutD (a :: t)[j + 1]?)) :=
              ev_ixT (ev_call (ea_cons (ev_var rfl s0) (ea_cons (ev_var rfl rj) ea_nil)) ⟨a :: t, j, n, rfl, hj, rfl⟩) ev_int (atI_nat (j := 1) rfl)
            refine s_ifE (b := (match (a :: t)[j + 1]?.map (·.x) with | none => true | some u => decide (hsZ h n < u))) (et_val (ev_call (kd := .d (.bool (match (a :: t)[j + 1]?.map (·.x) with | none => true | some u => decide (hsZ h n < u)))) (R := R_comes_before) (ea_cons (ev_call (ea_cons (ev_var rfl rc) ea_nil) ⟨hsZ h n, rfl, rfl⟩) (ea_cons hcut ea_nil)) ?_)) (fun hb Hf ef => ?_) fun hb Hf ef => ?_
            · refine ⟨hsZ h n, h3, ?_⟩
              cases hq : (a :: t)[j + 1]? with
              | none => exact .inr ⟨rfl, rfl⟩
              | some u => exact .inl ⟨u.x, (ho.x u (List.mem_of_getElem? hq)).mono (by omega), rfl, rfl⟩
            · rw [hsX_yes hk hf hb] at x7 hpre
              have ebf := edc.trans ef
              refine s_app (d := nodeD ⟨hsZ h n, hsStart h n, hsStart h n, n.k⟩) (ebf _ _ L9) (F9.mono (Tx.of ebf)) (by simp only [List.length_map, List.length_append, List.length_cons, List.length_nil] at hpre ⊢; omega) rfl (ev_tup (ed_cons (ev_var rfl (rc.mono ef)) (ed_cons (ev_var rfl ((r5.mono ee).mono ef)) (ed_cons (ev_var rfl ((r5.mono ee).mono ef)) (ed_cons (ev_ixT (ev_var rfl ((rv.mono ee).mono ef)) ev_int (atI_nat (j := 3) rfl)) ed_nil))))) fun vm Hg eg fg => ?_
              have lg := eg _ _ (ebf _ _ L9)
              refine fin _ _ ⟨_, (acc ++ [vn]) ++ [vm], (pre ++ [hsNd h n]) ++ [⟨hsZ h n, hsStart h n, hsStart h n, n.k⟩], rfl, Ex.mut (X9.trans (ebf.trans eg)) hl0, (Tx.of (((ed.trans ee).trans ef).trans eg)).trans (Tx.upd lg), upd_same, ?_, ?_⟩
              · rw [List.map_append]; exact fg
              · rw [List.append_assoc, List.append_assoc]; exact x7
            · rw [hsX_no hk hf hb] at x7
              have ebf := edc.trans ef
              exact fin _ _ ⟨_, acc ++ [vn], pre ++ [hsNd h n], rfl, X9.trans ebf, Tx.of ((ed.trans ee).trans ef), ebf _ _ L9, F9.mono (Tx.of ebf), by rw [List.append_assoc]; exact x7⟩
          · have hf : hsFollows h n = true := by simpa using hf
            rw [hsX_follows hf] at x7
            have ecd := ec.trans ed
            exact fin _ _ ⟨_, acc ++ [vn], pre ++ [hsNd h n], rfl, X9.trans ecd, Tx.of ed, ecd _ _ L9, F9.mono (Tx.of ecd), by rw [List.append_assoc]; exact x7⟩
      · rw [hsX_flat hk, hsH_flat hk] at x7
        exact ⟨vh2, _, _, _, _, _, _, acc ++ [vn], pre ++ [hsNd h n], _, rfl, X9.trans ec, T9.trans (Tx.of ec), ec _ _ L9, F9.mono (Tx.of ec), rh2.mono ec, hst, by rw [List.append_assoc]; exact x7⟩
    · rintro σ' H' ⟨vh, w3, w4, w5, w6, w7, w8, acc, pre, h, rfl, x1, x2, x3, x4, x5, x6, x7⟩
      rw [List.drop_length] at x7
      rw [show pre ++ hsN h [] = pre from List.append_nil _] at x7
      subst x7
      exact s_ret (ev_make (ev_var (kd := .l ((hsN a.v (a :: t)).map nodeD)) rfl ⟨l, acc, rfl, x3, x4⟩) hok) fun v H3 e3 r => k v H3 (x1.trans e3) r
end
end K66
set_option Elab.async false
set_option linter.all false
set_option autoImplicit false
set_option maxRecDepth 100000
set_option maxHeartbeats 4000000
/-! K7: rates, lines, the number at a place, whether a curve keeps between rates. -/
namespace K66
open PySem PySem.Spec PyProof.Rows L2
open Evl (Ex EvT)
/-- rates that the program lets pass -/
structure RtOk (low high : Option Rat) : Prop where
  lo : ∀ l, low = some l → Sm l
  hi : ∀ h, high = some h → Sm h
  le : ∀ l h, low = some l → high = some h → ¬ h < l
def befN (f : List Nd) (y : Rat) : Nd := ((f.filter fun n => decide (n.x < y)).getLast?).getD n0
structure NumOk (f : List Nd) (y : Rat) (sd : Sd) : Prop where
  near : NearOk f y
  bef : sd = .before → (∃ n ∈ f, n.x < y) ∧ SmL (befN f y) y
structure KeepOk (f : List Nd) (low high : Option Rat) : Prop where
  rt : RtOk low high
  len : f.length ≤ 400
  v : ∀ n ∈ f, Sm n.v
  s : ∀ n ∈ f, Sm n.s
  k : ∀ n ∈ f, Sm n.k
  ln : ∀ n ∈ f, ∀ m ∈ f, SmL n m.x ∧ Sm (lineAt n m.x)
def optB (o : Option Rat) (f : Rat → Bool) : Bool := match o with
  | none => false
  | some l => f l
section
variable {P : Program} {w : World} {c : Cv} {mg : Str → Option Value} {base : Heap} {aZ aT : Addr}
theorem et_opt {σ : L2.St} {H : Hp} {ta : TE} {t : TT} {o : Option Rat} {f : Rat → Bool} (h : EvK c ta σ H (.d (optD o))) (hl : ∀ l, o = some l → EvT t σ H (f l)) :
    EvT (tAnd (tTest (tOp (fun x y H Q => y = .non ∧ Q (.bl (!decide (x = .non))) H) ta (tC .non))) t) σ H (optB o f) := by
  cases o with
  | none => exact et_and (a := false) (b := false) (et_test (ev_notN h)) fun z => nomatch z
  | some l => exact et_is (et_and (a := true) (et_test (ev_notN h)) fun _ => hl l rfl) (Bool.true_and _)
def R_check_rates (ks : List KD) (kd : KD) : Prop := ∃ low high : Option Rat, ks = [.d (optD low), .d (optD high)] ∧ RtOk low high ∧ kd = .d .none
theorem c_check_rates (T : Txt c mg aZ aT) (S : Src c.K mg "check_rates" t_check_rates ["low", "high"]) (c_is_less : Def P w c.K mg base "is_less" ["first", "second"] 1 (spF c R_is_less)) (c_is_number : Def P w c.K mg base "is_number" ["value"] 2 (spF c R_is_number)) :
    Def P w c.K mg base "check_rates" ["low", "high"] 3 (spF c R_check_rates) := S.ok fun f fd F => by
  refine F.ok sc_check_rates (fun vs H Q E h => ?_) (fun cdv A outer s H vs Q E hr h => ?_)
  · obtain ⟨_, _, hk, ⟨_, _, rfl, _⟩, _⟩ := h
    exact hk.length
  · obtain ⟨_, _, hk, ⟨low, high, rfl, ho, rfl⟩, k⟩ := h
    obtain ⟨v0, v1, rfl, r0, r1⟩ := KpAll.two hk
    refine ⟨_, (pss_cons (ps_for PassesOwn.never rfl (piT c.K rfl (pe_tup (pa_cons (pv 0) (pa_cons (pv 1) pa_nil)))) (pg_name (i := 2) sc_check_rates.nd rfl (Or.inl rfl)) (pss_one (ps_if (PW.pt (pw_and (pt_cmpR op_notN (pv 2) pe_non (nomark _)) (pw_and1 (pt_not (pt_val (c_is_number.pe (hr.mono (by decide)) (by rfl) (pa_cons (pv 2) pa_nil))))))) (pss_one ps_never) pss_nil)))
      (pss_one (ps_if (PW.pt (pw_and (pt_cmpR op_notN (pv 0) pe_non (nomark _)) (pw_and (pt_cmpR op_notN (pv 1) pe_non (nomark _)) (pw_and1 (pt_val (c_is_less.pe (hr.mono (by decide)) (by rfl) (pa_cons (pv 1) (pa_cons (pv 0) pa_nil)))))))) (pss_one ps_never) pss_nil))), ?_⟩
    refine n_forT optD [low, high] (ev_tup (ed_cons (ev_var rfl r0) (ed_cons (ev_var rfl r1) ed_nil))) fun H1 e1 => ⟨fun j σ' H' => ∃ w2, σ' = [some v0, some v1, w2] ∧ Ex H1 H', ⟨none, rfl, Ex.refl _⟩, ?_, ?_, ?_⟩
    · rintro j σ' H' ⟨w2, _, e⟩
      exact Tx.of e
    · rintro j o v σ' H' hj ⟨w2, rfl, e⟩ rv
      have rv : Kp c H' v (.d (optD o)) := rv
      refine s_ifF (et_is (et_opt (f := fun _ => false) (ev_var rfl rv) fun l hl => et_not (a := true) (et_val (c := c) ?_)) ?_) fun H2 e2 => ⟨_, rfl, e.trans e2⟩
      · subst hl
        have rv : Kp c H' v (.d (numD l)) := rv
        exact ev_call (ea_cons (ev_var rfl rv) ea_nil) ⟨l, rfl, rfl⟩
      · cases o <;> rfl
    · rintro σ' H' ⟨w2, rfl, e⟩
      refine s_ifF (et_is (et_opt (o := low) (f := fun l => optB high fun h => decide (h < l)) (ev_var rfl ((r0.mono e1).mono e)) fun l hl => et_opt (o := high) (f := fun h => decide (h < l)) (ev_var rfl ((r1.mono e1).mono e)) fun h hh => et_val (c := c) ?_) ?_) fun H2 e2 => k _ H2 ((e1.trans e).trans e2) .non
      · subst hl
        subst hh
        have r0 : Kp c H' v0 (.d (numD l)) := (r0.mono e1).mono e
        have r1 : Kp c H' v1 (.d (numD h)) := (r1.mono e1).mono e
        exact ev_call (ea_cons (ev_var rfl r1) (ea_cons (ev_var rfl r0) ea_nil)) ⟨h, l, rfl, ho.hi h rfl, ho.lo l rfl, rfl⟩
      · cases hl : low with
        | none => rfl
        | some l =>
          cases hh : high with
          | none => rfl
          | some h => exact decide_eq_false (ho.le l h hl hh)
theorem okN_line {k : Rat} (hk : Sm k) : OkN (lineC k) := by
  have z : Sm (0 : Rat) := ht_zero.mono (by decide)
  refine ⟨⟨rfl, List.pairwise_singleton ..⟩, Nat.le_of_ble_eq_true rfl, fun m hm n hn => ?_⟩
  obtain rfl := List.mem_singleton.mp hm
  obtain rfl := List.mem_singleton.mp hn
  have e : (0 : Rat) - 0 = 0 := by grind
  exact ⟨z, z, hk, z, by show Sm ((0 : Rat) - 0); rw [e]; exact z, by show Sm (k * ((0 : Rat) - 0)); rw [e, Rat.mul_zero]; exact z⟩
def R_line_curve (ks : List KD) (kd : KD) : Prop := ∃ q : Rat, ks = [.d (numD q)] ∧ Sm q ∧ kd = .c (lineC q)
theorem c_line_curve (T : Txt c mg aZ aT) (S : Src c.K mg "line_curve" t_line_curve ["slope"]) (c_Curve : DefM P w c.K mg base c.C "__init__" ["self", "nodes"] 6 (spInit c)) :
    Def P w c.K mg base "line_curve" ["slope"] 8 (spF c R_line_curve) := S.ok fun f fd F => by
  refine F.ok sc_line_curve (fun vs H Q E h => ?_) (fun cdv A outer s H vs Q E hr h => ?_)
  · obtain ⟨_, _, hk, ⟨_, rfl, _⟩, _⟩ := h
    exact hk.length
  · obtain ⟨_, _, hk, ⟨q, rfl, hq, rfl⟩, k⟩ := h
    obtain ⟨v0, rfl, r0⟩ := KpAll.one hk
    refine ⟨_, (pss_one (ps_ret (c_Curve.mk T rfl (hr.mono (by decide)) (by rfl) (pa_cons (pe_lst (pa_cons (pe_tup (pa_cons (pe_glob (v := .ref aZ) (by rfl) T.mgZERO rfl) (pa_cons (pe_glob (v := .ref aZ) (by rfl) T.mgZERO rfl) (pa_cons (pe_glob (v := .ref aZ) (by rfl) T.mgZERO rfl) (pa_cons (pv 0) pa_nil))))) pa_nil)) pa_nil)))), ?_⟩
    have z : ∀ {σ : L2.St} {H : Hp}, EvK c (tC (.ref aZ)) σ H (.d (numD 0)) := fun {σ H} => ev_glob (kd := .d (numD 0)) (T.zero H)
    exact s_ret (ev_make (f := lineC q) (EvF.k (ef_lst (ds := [nodeD ⟨0, 0, 0, q⟩]) (ed_cons (ev_tup (ed_cons z (ed_cons z (ed_cons z (ed_cons (ev_var rfl r0) ed_nil))))) ed_nil))) (okN_line hq)) k
def sideD : Sd → PyData
  | .at_ => .str "at"
  | .after => .str "after"
  | .before => .str "before"
theorem eqv_side (a b : Sd) : PyData.eqv (sideD a) (sideD b) = decide (a = b) := by
  cases a <;> cases b <;> decide +kernel
theorem side_is {r : Bool} (a b : Sd) (h : decide (a = b) = r) : KD.d (.bool (PyData.eqv (sideD a) (sideD b))) = .d (.bool r) := by rw [eqv_side, h]
theorem shaped_side (a : Sd) : SeqAt.shaped (sideD a) = true := by
  cases a <;> decide +kernel
def R_number_at (ks : List KD) (kd : KD) : Prop := ∃ (f : List Nd) (y : Rat) (sd : Sd), ks = [.c f, .d (.tuple [numD y, sideD sd])] ∧ NumOk f y sd ∧ kd = .d (numD (numAt f y sd))
theorem bef_some {f : List Nd} {y : Rat} (h : ∃ n ∈ f, n.x < y) : (f.filter fun n => decide (n.x < y)).getLast? = some (befN f y) := by
  obtain ⟨n, hn, hy⟩ := h
  have hne : (f.filter fun n => decide (n.x < y)) ≠ [] := by
    intro z
    have : n ∈ (f.filter fun n => decide (n.x < y)) := List.mem_filter.mpr ⟨hn, by simp [hy]⟩
    rw [z] at this
    cases this
  unfold befN
  rw [List.getLast?_eq_some_getLast hne]
  rfl
theorem c_number_at (T : Txt c mg aZ aT) (S : Src c.K mg "number_at" t_number_at ["curve", "place"]) (c_node_near : Def P w c.K mg base "node_near" ["nodes", "income"] 6 (spF c R_node_near)) (c_reached_by : Def P w c.K mg base "reached_by" ["node", "income"] 5 (spF c R_reached_by)) (c_is_less : Def P w c.K mg base "is_less" ["first", "second"] 1 (spF c R_is_less)) :
    Def P w c.K mg base "number_at" ["curve", "place"] 7 (spF c R_number_at) := S.ok fun f fd F => by
  refine F.ok sc_number_at (fun vs H Q E h => ?_) (fun cdv A outer s H vs Q E hr h => ?_)
  · obtain ⟨_, _, hk, ⟨_, _, _, rfl, _⟩, _⟩ := h
    exact hk.length
  · obtain ⟨_, _, hk, ⟨g, y, sd, rfl, ho, rfl⟩, k⟩ := h
    obtain ⟨v0, v1, rfl, r0, r1⟩ := KpAll.two hk
    refine ⟨_, (pss_cons (ps_asg (pv 1) (pg_tup rfl (pgs_cons (pg_name (i := 2) sc_number_at.nd rfl (Or.inr rfl)) (pgs_cons (pg_name (i := 3) sc_number_at.nd rfl (Or.inl rfl)) pgs_nil))))
      (pss_cons (ps_asg (c_node_near.pe (hr.mono (by decide)) (by rfl) (pa_cons (peF c.K rfl (pv 0) rfl) (pa_cons (pv 2) pa_nil))) (pg_tup rfl (pgs_cons (pg_name (i := 4) sc_number_at.nd rfl (Or.inl rfl)) (pgs_cons (pg_name (i := 5) sc_number_at.nd rfl (Or.inl rfl)) (pgs_cons (pg_name (i := 6) sc_number_at.nd rfl (Or.inl rfl)) pgs_nil)))))
      (pss_cons (ps_if (pt_cmpR (oEqD c.K rfl hr.units) (pv 3) pe_str (nomark _)) (pss_one (ps_ret (pv 4))) pss_nil)
      (pss_cons (ps_if (pt_cmpR (oEqD c.K rfl hr.units) (pv 3) pe_str (nomark _)) (pss_one (ps_ret (pv 5))) pss_nil)
      (pss_one (ps_ret (c_reached_by.pe (hr.mono (by decide)) (by rfl) (pa_cons (pe_ix (ixL c.K rfl) (pe_lc (own := [("node", 7)]) (g := gName 7) (by rfl) sc_number_at.nd (piT c.K rfl (peF c.K rfl (pv 0) rfl)) (blkOk_by (own := [("node", 7)]) (N := ["curve", "place", "income", "side", "value", "start", "slope", "node"]) (sc := defScope t_number_at) (by decide +kernel)) (fun _ _ _ _ _ => pg_name (i := 7) sc_number_at.nd rfl (Or.inl rfl)) (fun _ _ _ _ _ => (pts_one (pt_val (c_is_less.pe (hr.mono (by decide)) (by rfl) (pa_cons (pe_ix (ixT c.K rfl) (pv 7) pe_int (fun _ _ => rfl)) (pa_cons (pv 2) pa_nil)))))) (fun _ _ _ _ _ => (pv 7))) (pe_un un_neg pe_int) (fun _ _ => rfl)) (pa_cons (pv 2) pa_nil))))))))), ?_⟩
    refine n_tup2 (ev_var rfl r1) fun v2 v3 H1 e1 r2 r3 => ?_
    have r2 : Kp c H1 v2 (.d (numD y)) := r2
    have r3 : Kp c H1 v3 (.d (sideD sd)) := r3
    have s0 := r0.mono e1
    refine n_tup3 (ev_call (ea_cons (ev_nodes T (ev_var rfl s0)) (ea_cons (ev_var rfl r2) ea_nil)) ho.near.r) fun v4 v5 v6 H2 e2 r4 r5 r6 => ?_
    have r4 : Kp c H2 v4 (.d (numD (vl g y))) := r4
    have r5 : Kp c H2 v5 (.d (numD (st g y))) := r5
    have r2 := r2.mono e2
    have r3 := r3.mono e2
    have s0 := s0.mono e2
    have e12 := e1.trans e2
    cases sd with
    | at_ =>
      refine n_ifE (b := true) (et_test (ev_is (ev_eqD (ev_var rfl r3) ev_str (.d _) (.d _) (shaped_side _) (shaped_side Sd.at_)) (side_is .at_ .at_ (by decide)))) (fun _ H3 e3 => ?_) (fun z => nomatch z)
      exact s_ret (ev_var rfl (r4.mono e3)) fun v H4 e4 r => k v H4 ((e12.trans e3).trans e4) r
    | after =>
      refine n_ifF (et_test (ev_is (ev_eqD (ev_var rfl r3) ev_str (.d _) (.d _) (shaped_side _) (shaped_side Sd.at_)) (side_is .after .at_ (by decide)))) fun H3 e3 => ?_
      refine n_ifE (b := true) (et_test (ev_is (ev_eqD (ev_var rfl (r3.mono e3)) ev_str (.d _) (.d _) (shaped_side _) (shaped_side Sd.after)) (side_is .after .after (by decide)))) (fun _ H4 e4 => ?_) (fun z => nomatch z)
      exact s_ret (ev_var rfl ((r5.mono e3).mono e4)) fun v H5 e5 r => k v H5 (((e12.trans e3).trans e4).trans e5) r
    | before =>
      obtain ⟨hb, hs⟩ := ho.bef rfl
      refine n_ifF (et_test (ev_is (ev_eqD (ev_var rfl r3) ev_str (.d _) (.d _) (shaped_side _) (shaped_side Sd.at_)) (side_is .before .at_ (by decide)))) fun H3 e3 => ?_
      refine n_ifF (et_test (ev_is (ev_eqD (ev_var rfl (r3.mono e3)) ev_str (.d _) (.d _) (shaped_side _) (shaped_side Sd.after)) (side_is .before .after (by decide)))) fun H4 e4 => ?_
      have e34 := e3.trans e4
      have s0 := s0.mono e34
      have r2 := r2.mono e34
      refine s_ret (ev_call (ea_cons (ev_ixL (ds := (g.filter fun n => decide (n.x < y)).map nodeD) (d := nodeD (befN g y)) (EvF.k (ef_lcT nodeD g (fun n => decide (n.x < y)) nodeD (by have := ho.near.len; omega) (ev_nodes T (ev_var rfl s0)) (fun n hn v H5 e5 rv => ?_) fun n hn _ v H5 e5 rv => ev_var (kd := .d (nodeD n)) rfl rv)) (ev_neg ev_int) ?_) (ea_cons (ev_var rfl r2) ea_nil)) ⟨befN g y, y, rfl, hs, rfl⟩) fun v H5 e5 r => k v H5 ((e12.trans e34).trans e5) r
      · exact et_val (ev_call (ea_cons (ev_ixT (ev_var (kd := .d (nodeD n)) rfl rv) ev_int (atI_nat (j := 0) rfl)) (ea_cons (ev_var rfl (r2.mono e5)) ea_nil)) ⟨n.x, y, rfl, ho.near.xs n hn, ho.near.ln.hy, rfl⟩)
      · refine atI_back ?_
        rw [List.getLast?_map, bef_some hb]
        rfl
def pairsOk (low high : Option Rat) : List Rat → Bool
  | a :: b :: t => stepOk low high a b && pairsOk low high (b :: t)
  | _ => true
theorem pairsOk_short {low high : Option Rat} : ∀ {l : List Rat}, l.length ≤ 1 → pairsOk low high l = true
  | [], _ => rfl
  | [_], _ => rfl
  | _ :: _ :: _, h => by simp at h
theorem stepOk_not (low high : Option Rat) (a b : Rat) : ((optB low fun _ => decide (b < a)) || (optB high fun _ => decide (a < b))) = !stepOk low high a b := by
  unfold stepOk optB
  cases low <;> cases high <;> simp
def numsAt (o : Option Nd) (n : Nd) : List Rat := (o.map fun m => lineAt m n.x).toList ++ [n.v, n.s]
theorem stepsOk_cons (low high : Option Rat) (o : Option Nd) (n : Nd) (t : List Nd) : stepsOk low high o (n :: t) = (pairsOk low high (numsAt o n) && stepsOk low high (some n) t) := by
  cases o with
  | none =>
    show (true && (stepOk low high n.v n.s && _)) = ((stepOk low high n.v n.s && true) && _)
    simp
  | some m =>
    show (stepOk low high (lineAt m n.x) n.v && (stepOk low high n.v n.s && _)) = ((stepOk low high (lineAt m n.x) n.v && (stepOk low high n.v n.s && true)) && _)
    simp [Bool.and_assoc]
def R_are_steps_kept (ks : List KD) (kd : KD) : Prop := ∃ (f : List Nd) (low high : Option Rat), ks = [.c f, .d (optD low), .d (optD high)] ∧ KeepOk f low high ∧ kd = .d (.bool (stepsOk low high none f))
theorem c_are_steps_kept (T : Txt c mg aZ aT) (S : Src c.K mg "are_steps_kept" t_are_steps_kept ["curve", "low", "high"]) (c_reached_by : Def P w c.K mg base "reached_by" ["node", "income"] 5 (spF c R_reached_by)) (c_is_less : Def P w c.K mg base "is_less" ["first", "second"] 1 (spF c R_is_less)) :
    Def P w c.K mg base "are_steps_kept" ["curve", "low", "high"] 6 (spF c R_are_steps_kept) := S.ok fun f fd F => by
  refine F.ok sc_are_steps_kept (fun vs H Q E h => ?_) (fun cdv A outer s H vs Q E hr h => ?_)
  · obtain ⟨_, _, hk, ⟨_, _, _, rfl, _⟩, _⟩ := h
    exact hk.length
  · obtain ⟨_, _, hk, ⟨g, low, high, rfl, ho, rfl⟩, k⟩ := h
    obtain ⟨v0, v1, v2, rfl, r0, r1, r2⟩ := KpAll.three hk
    refine ⟨_, (pss_cons (ps_for PassesOwn.never rfl (piEnT c.K rfl (by rfl) T.enumerate (pa_cons (peF c.K rfl (pv 0) rfl) pa_nil)) (pg_tup rfl (pgs_cons (pg_name (i := 3) sc_are_steps_kept.nd rfl (Or.inl rfl)) (pgs_cons (pg_name (i := 4) sc_are_steps_kept.nd rfl (Or.inl rfl)) pgs_nil))) (pss_cons (ps_set (i := 5) sc_are_steps_kept.nd rfl (Or.inl rfl) (pe_lst (pa_cons (pe_ix (ixT c.K rfl) (pv 4) pe_int (fun _ _ => rfl)) (pa_cons (pe_ix (ixT c.K rfl) (pv 4) pe_int (fun _ _ => rfl)) pa_nil))))
      (pss_cons (ps_if (pt_cmpR op_gt (pv 3) pe_int (nomark _)) (pss_one (ps_set (i := 5) sc_are_steps_kept.nd rfl (Or.inl rfl) (pe_op op_cat (pe_lst (pa_cons (c_reached_by.pe (hr.mono (by decide)) (by rfl) (pa_cons (pe_ix (ixT c.K rfl) (peF c.K rfl (pv 0) rfl) (pe_op op_sub (pv 3) pe_int) (fun _ _ => rfl)) (pa_cons (pe_ix (ixT c.K rfl) (pv 4) pe_int (fun _ _ => rfl)) pa_nil))) pa_nil)) (pv 5)))) pss_nil)
      (pss_one (ps_for PassesOwn.never rfl (piZip c.K rfl (by rfl) T.zip (pa_cons (pe_slice (slL c.K rfl) (pv 5) po_none (po_some (pe_un un_neg pe_int))) (pa_cons (pe_slice (slL c.K rfl) (pv 5) (po_some pe_int) po_none) pa_nil))) (pg_tup rfl (pgs_cons (pg_name (i := 6) sc_are_steps_kept.nd rfl (Or.inl rfl)) (pgs_cons (pg_name (i := 7) sc_are_steps_kept.nd rfl (Or.inl rfl)) pgs_nil))) (pss_one (ps_if (PW.pt (pw_or (PW.pt (pw_and (pt_cmpR op_notN (pv 1) pe_non (nomark _)) (pw_and1 (pt_val (c_is_less.pe (hr.mono (by decide)) (by rfl) (pa_cons (pv 7) (pa_cons (pv 6) pa_nil))))))) (pw_or1 (PW.pt (pw_and (pt_cmpR op_notN (pv 2) pe_non (nomark _)) (pw_and1 (pt_val (c_is_less.pe (hr.mono (by decide)) (by rfl) (pa_cons (pv 6) (pa_cons (pv 7) pa_nil)))))))))) (pss_one (ps_ret pe_bl)) pss_nil)))))))
      (pss_one (ps_ret pe_bl))), ?_⟩
    refine n_forEnT nodeD g (ev_nodes T (ev_var rfl r0)) fun H1 e1 => ⟨fun j σ' H' => ∃ w3 w4 w5 w6 w7, σ' = [some v0, some v1, some v2, w3, w4, w5, w6, w7] ∧ Ex H1 H' ∧ stepsOk low high (match j with | 0 => none | j + 1 => g[j]?) (g.drop j) = stepsOk low high none g, ⟨none, none, none, none, none, rfl, Ex.refl _, rfl⟩, ?_, ?_, ?_⟩
    · rintro j σ' H' ⟨w3, w4, w5, w6, w7, _, e, _⟩
      exact Tx.of e
    · rintro j n v σ' H' H2 hj ⟨w3, w4, w5, w6, w7, rfl, x1, x2⟩ e2 rv
      have hn : n ∈ g := List.mem_of_getElem? hj
      have rv : Kp c H2 v (.d (nodeD n)) := rv
      have E2 := (e1.trans x1).trans e2
      have s0 := r0.mono E2
      have hjl := (List.getElem?_eq_some_iff.mp hj).1
      rw [drop_cons hj, stepsOk_cons] at x2
      refine n_asg (EvF.k (ef_lst (ds := [numD n.v, numD n.s]) (ed_cons (ev_ixT (ev_var rfl rv) ev_int (atI_nat (j := 1) rfl)) (ed_cons (ev_ixT (ev_var rfl rv) ev_int (atI_nat (j := 2) rfl)) ed_nil)))) fun v5 H3 e3 r5 => ?_
      have rv := rv.mono e3
      have s0 := s0.mono e3
      generalize hO : (match j with | 0 => (none : Option Nd) | j + 1 => g[j]?) = O at x2
      have hOm : ∀ m, O = some m → m ∈ g := by
        intro m hm
        cases j with
        | zero => rw [← hO] at hm; cases hm
        | succ j => rw [← hO] at hm; exact List.mem_of_getElem? hm
      have hL : ∀ a ∈ numsAt O n, Sm a := by
        intro a ha
        rcases List.mem_append.mp ha with h | h
        · cases O with
          | none => cases h
          | some m =>
            rw [List.mem_singleton.mp h]
            exact (ho.ln m (hOm m rfl) n hn).2
        · rcases List.mem_cons.mp h with h | h
          · rw [h]; exact ho.v n hn
          · rw [List.mem_singleton.mp h]; exact ho.s n hn
      refine n_mid (fun σ' H' => ∃ u, σ' = [some v0, some v1, some v2, some (.int (j : Int)), some v, some u, w6, w7] ∧ Ex H3 H' ∧ Kp c H' u (.l ((numsAt O n).map fun q => numD q))) ?_ fun fin => ?_
      · rintro σ' H' ⟨u, rfl, y1, ru⟩
        have E4 := (E2.trans e3).trans y1
        have s1 := r1.mono E4
        have s2 := r2.mono E4
        generalize hLL : numsAt O n = L at ru hL x2
        have hlen : L.length ≤ 3 := by
          rw [← hLL]
          unfold numsAt
          cases O <;> simp
        refine s_forZip ((L.map fun q => numD q).take ((L.map fun q => numD q).length - 1)) ((L.map fun q => numD q).drop 1) (by simp) (ef_toBack (ev_var rfl ru) (ev_neg ev_int)) (ef_from (j := 1) (ev_var rfl ru) ev_int) fun H5 e5 => ⟨fun i σ' H' => ∃ w6 w7, σ' = [some v0, some v1, some v2, some (.int (j : Int)), some v, some u, w6, w7] ∧ Ex H5 H' ∧ pairsOk low high (L.drop i) = pairsOk low high L, ⟨w6, w7, rfl, Ex.refl _, rfl⟩, ?_, ?_, ?_⟩
        · rintro i σ' H' ⟨w6, w7, _, e, _⟩
          exact e
        · rintro i d e vd ve σ' H' H6 hd he ⟨w6, w7, rfl, z1, z2⟩ e6 rd re
          obtain ⟨a, b, ha, hb, rfl, rfl⟩ : ∃ a b, L[i]? = some a ∧ L[i + 1]? = some b ∧ d = numD a ∧ e = numD b := by
            rw [← List.map_take, List.getElem?_map] at hd
            rw [← List.map_drop, List.getElem?_map, List.getElem?_drop] at he
            cases h1 : (L.take ((L.map fun q => numD q).length - 1))[i]? with
            | none => rw [h1] at hd; cases hd
            | some a =>
              cases h2 : L[1 + i]? with
              | none => rw [h2] at he; cases he
              | some b =>
                rw [h1] at hd
                rw [h2] at he
                refine ⟨a, b, ?_, by rw [Nat.add_comm]; exact h2, (Option.some.inj hd).symm, (Option.some.inj he).symm⟩
                rw [List.getElem?_take] at h1
                split at h1
                · exact h1
                · cases h1
          have rd : Kp c H6 vd (.d (numD a)) := rd
          have re : Kp c H6 ve (.d (numD b)) := re
          have E6 := (e5.trans z1).trans e6
          have s1 := s1.mono E6
          have s2 := s2.mono E6
          have sa := hL a (List.mem_of_getElem? ha)
          have sb := hL b (List.mem_of_getElem? hb)
          rw [drop_cons ha, drop_cons hb] at z2
          rw [show pairsOk low high (a :: b :: L.drop (i + 1 + 1)) = (stepOk low high a b && pairsOk low high (b :: L.drop (i + 1 + 1))) from rfl, ← drop_cons hb] at z2
          refine s_ifE (b := !stepOk low high a b) (et_is (et_or (et_opt (o := low) (f := fun l => decide (b < a)) (ev_var rfl s1) fun l _ => et_val (ev_call (ea_cons (ev_var rfl re) (ea_cons (ev_var rfl rd) ea_nil)) ⟨b, a, rfl, sb, sa, rfl⟩)) fun _ => et_opt (o := high) (f := fun h => decide (a < b)) (ev_var rfl s2) fun h _ => et_val (ev_call (ea_cons (ev_var rfl rd) (ea_cons (ev_var rfl re) ea_nil)) ⟨a, b, rfl, sa, sb, rfl⟩)) (stepOk_not low high a b)) (fun hb H7 e7 => ?_) fun hb H7 e7 => ?_
          · have hs : stepOk low high a b = false := by simpa using hb
            rw [hs, Bool.false_and] at z2
            rw [← z2, Bool.false_and] at x2
            refine s_ret (kd := .d (.bool (stepsOk low high none g))) (ev_is (ev_bl (c := c)) (by rw [← x2])) fun v' H8 e8 r => k v' H8 (((E4.trans E6).trans e7).trans e8) r
          · have hs : stepOk low high a b = true := by simpa using hb
            rw [hs, Bool.true_and] at z2
            exact ⟨_, _, rfl, (z1.trans e6).trans e7, z2⟩
        · rintro σ' H' ⟨w6, w7, rfl, z1, z2⟩
          rw [pairsOk_short (by rw [List.length_drop, List.length_take, List.length_map]; omega)] at z2
          rw [← z2, Bool.true_and] at x2
          refine ⟨_, _, _, _, _, rfl, ((((x1.trans e2).trans e3).trans y1).trans e5).trans z1, ?_⟩
          show stepsOk low high g[j]? (g.drop (j + 1)) = _
          rw [hj]
          exact x2
      · refine n_ifE (b := decide ((0 : Int) < (j : Int))) (et_test (c := c) (ev_B0 (g := fun i j => decide (j < i)) (ev_var rfl (Fp.int _)) ev_int)) (fun hb H4 e4 => ?_) fun hb H4 e4 => ?_
        · obtain ⟨j, rfl⟩ : ∃ i, j = i + 1 := ⟨j - 1, by have := of_decide_eq_true hb; omega⟩
          have hO : g[j]? = O := hO
          have hlt : j < g.length := by omega
          rw [List.getElem?_eq_getElem hlt] at hO
          subst hO
          have hm : g[j] ∈ g := List.getElem_mem hlt
          have ln := ho.ln g[j] hm n hn
          have rv := rv.mono e4
          have s0 := s0.mono e4
          refine s_asg (kd := .l ((numsAt (some g[j]) n).map fun q => numD q)) (EvF.k (ef_cat (ds := [numD (lineAt g[j] n.x)]) (es := [numD n.v, numD n.s]) (EvF.k (ef_lst (ed_cons (ev_call (ea_cons (ev_ixT (ds := g.map nodeD) (d := nodeD g[j]) (i := ((j : Nat) : Int)) (ev_nodes T (ev_var rfl s0)) (ev_is (ev_I0 (g := fun i j => i - j) (ev_var rfl (Fp.int _)) ev_int) ?_) ?_) (ea_cons (ev_ixT (ev_var rfl rv) ev_int (atI_nat (j := 0) rfl)) ea_nil)) ⟨g[j], n.x, rfl, ln.1, rfl⟩) ed_nil))) (ev_var rfl (r5.mono e4)) (Nat.le_of_ble_eq_true rfl))) fun u H5 e5 ru => fin _ _ ⟨u, rfl, e4.trans e5, ru⟩
          · have q : ((j + 1 : Nat) : Int) - 1 = (j : Int) := by omega
            show KD.d (.int (((j + 1 : Nat) : Int) - 1)) = _
            rw [q]
          · refine atI_nat (j := j) ?_
            rw [List.getElem?_map, List.getElem?_eq_getElem hlt]
            rfl
        · have hz : j = 0 := by have := of_decide_eq_false hb; omega
          subst hz
          have hO : none = O := hO
          subst hO
          exact fin _ _ ⟨v5, rfl, e4, r5.mono e4⟩
    · rintro σ' H' ⟨w3, w4, w5, w6, w7, rfl, x1, x2⟩
      rw [List.drop_length] at x2
      refine s_ret (kd := .d (.bool (stepsOk low high none g))) (ev_is (ev_bl (c := c)) (by rw [← x2]; rfl)) fun v' H8 e8 r => k v' H8 ((e1.trans x1).trans e8) r
theorem slopeOk_not (low high : Option Rat) (a : Rat) : ((optB low fun l => decide (a < l)) || (optB high fun h => decide (h < a))) = !slopeOk low high a := by
  unfold slopeOk optB
  cases low <;> cases high <;> simp
def R_keeps_between (ks : List KD) (kd : KD) : Prop := ∃ (f : List Nd) (low high : Option Rat), ks = [.c f, .d (optD low), .d (optD high)] ∧ KeepOk f low high ∧ kd = .d (.bool (keepsC f low high))
theorem c_keeps_between (T : Txt c mg aZ aT) (S : Src c.K mg "keeps_between" t_keeps_between ["curve", "low", "high"]) (c_check_rates : Def P w c.K mg base "check_rates" ["low", "high"] 3 (spF c R_check_rates)) (c_are_steps_kept : Def P w c.K mg base "are_steps_kept" ["curve", "low", "high"] 6 (spF c R_are_steps_kept)) (c_is_less : Def P w c.K mg base "is_less" ["first", "second"] 1 (spF c R_is_less)) :
    Def P w c.K mg base "keeps_between" ["curve", "low", "high"] 7 (spF c R_keeps_between) := S.ok fun f fd F => by
  refine F.ok sc_keeps_between (fun vs H Q E h => ?_) (fun cdv A outer s H vs Q E hr h => ?_)
  · obtain ⟨_, _, hk, ⟨_, _, _, rfl, _⟩, _⟩ := h
    exact hk.length
  · obtain ⟨_, _, hk, ⟨g, low, high, rfl, ho, rfl⟩, k⟩ := h
    obtain ⟨v0, v1, v2, rfl, r0, r1, r2⟩ := KpAll.three hk
    refine ⟨_, (pss_cons (ps_expr (c_check_rates.pe (hr.mono (by decide)) (by rfl) (pa_cons (pv 1) (pa_cons (pv 2) pa_nil))))
      (pss_cons (ps_for PassesOwn.never rfl (piT c.K rfl (peF c.K rfl (pv 0) rfl)) (pg_name (i := 3) sc_keeps_between.nd rfl (Or.inl rfl)) (pss_one (ps_if (PW.pt (pw_or (PW.pt (pw_and (pt_cmpR op_notN (pv 1) pe_non (nomark _)) (pw_and1 (pt_val (c_is_less.pe (hr.mono (by decide)) (by rfl) (pa_cons (pe_ix (ixT c.K rfl) (pv 3) pe_int (fun _ _ => rfl)) (pa_cons (pv 1) pa_nil))))))) (pw_or1 (PW.pt (pw_and (pt_cmpR op_notN (pv 2) pe_non (nomark _)) (pw_and1 (pt_val (c_is_less.pe (hr.mono (by decide)) (by rfl) (pa_cons (pv 2) (pa_cons (pe_ix (ixT c.K rfl) (pv 3) pe_int (fun _ _ => rfl)) pa_nil)))))))))) (pss_one (ps_ret pe_bl)) pss_nil)))
      (pss_one (ps_ret (c_are_steps_kept.pe (hr.mono (by decide)) (by rfl) (pa_cons (pv 0) (pa_cons (pv 1) (pa_cons (pv 2) pa_nil)))))))), ?_⟩
    refine n_drop (ev_call (ea_cons (ev_var rfl r1) (ea_cons (ev_var rfl r2) ea_nil)) ⟨low, high, rfl, ho.rt, rfl⟩) fun H1 e1 => ?_
    refine n_forT nodeD g (ev_nodes T (ev_var rfl (r0.mono e1))) fun H2 e2 => ⟨fun j σ' H' => ∃ w3, σ' = [some v0, some v1, some v2, w3] ∧ Ex H2 H' ∧ (g.drop j).all (fun n => slopeOk low high n.k) = g.all (fun n => slopeOk low high n.k), ⟨none, rfl, Ex.refl _, rfl⟩, ?_, ?_, ?_⟩
    · rintro j σ' H' ⟨w3, _, e, _⟩
      exact Tx.of e
    · rintro j n v σ' H' hj ⟨w3, rfl, x1, x2⟩ rv
      have hn : n ∈ g := List.mem_of_getElem? hj
      have rv : Kp c H' v (.d (nodeD n)) := rv
      have E := (e1.trans e2).trans x1
      have s1 := r1.mono E
      have s2 := r2.mono E
      have hkn := ho.k n hn
      rw [drop_cons hj, List.all_cons] at x2
      refine s_ifE (b := !slopeOk low high n.k) (et_is (et_or (et_opt (o := low) (f := fun l => decide (n.k < l)) (ev_var rfl s1) fun l hl => et_val (c := c) ?_) fun _ => et_opt (o := high) (f := fun h => decide (h < n.k)) (ev_var rfl s2) fun h hh => et_val (c := c) ?_) (slopeOk_not low high n.k)) (fun hb H3 e3 => ?_) fun hb H3 e3 => ?_
      · subst hl
        have s1 : Kp c H' v1 (.d (numD l)) := s1
        exact ev_call (ea_cons (ev_ixT (ev_var rfl rv) ev_int (atI_nat (j := 3) rfl)) (ea_cons (ev_var rfl s1) ea_nil)) ⟨n.k, l, rfl, hkn, ho.rt.lo l rfl, rfl⟩
      · subst hh
        have s2 : Kp c H' v2 (.d (numD h)) := s2
        exact ev_call (ea_cons (ev_var rfl s2) (ea_cons (ev_ixT (ev_var rfl rv) ev_int (atI_nat (j := 3) rfl)) ea_nil)) ⟨h, n.k, rfl, ho.rt.hi h rfl, hkn, rfl⟩
      · have hs : slopeOk low high n.k = false := by simpa using hb
        rw [hs, Bool.false_and] at x2
        refine s_ret (kd := .d (.bool (keepsC g low high))) (ev_is (ev_bl (c := c)) ?_) fun v' H4 e4 r => k v' H4 ((E.trans e3).trans e4) r
        unfold keepsC
        rw [← x2]
        rfl
      · have hs : slopeOk low high n.k = true := by simpa using hb
        rw [hs, Bool.true_and] at x2
        exact ⟨_, rfl, x1.trans e3, x2⟩
    · rintro σ' H' ⟨w3, rfl, x1, x2⟩
      rw [List.drop_length] at x2
      have E := (e1.trans e2).trans x1
      refine s_ret (kd := .d (.bool (keepsC g low high))) (ev_is (ev_call (R := R_are_steps_kept) (ea_cons (ev_var rfl (r0.mono E)) (ea_cons (ev_var rfl (r1.mono E)) (ea_cons (ev_var rfl (r2.mono E)) ea_nil))) ⟨g, low, high, rfl, ho, rfl⟩) ?_) fun v' H4 e4 r => k v' H4 (E.trans e4) r
      unfold keepsC
      rw [← x2]
      rfl
end
end K66
set_option Elab.async false
set_option linter.all false
set_option autoImplicit false
set_option maxRecDepth 100000
set_option maxHeartbeats 4000000
/-! K8: the highest behind; the least curve between rates. -/
namespace K66
open PySem PySem.Spec PyProof.Rows L2
open Evl (Ex EvT)
structure FallOk (n : Nd) (o : Option (Rat × Rat)) : Prop where
  v : Sm n.v
  s : Sm n.s
  x : Sm n.x
  k : Sm n.k
  o : ∀ r l, o = some (r, l) → n.k ≠ 0 ∧ SmL n l ∧ Sm (lineAt n l) ∧ Sm r ∧ Sm (r - n.s) ∧ Sm ((r - n.s) / n.k)
structure HbOk (f : List Nd) (N X S : Nat) : Prop where
  big : 2 * N + X + S + 10 ≤ 4000
  len : f.length ≤ 400
  x : ∀ n ∈ f, Ht X n.x
  v : ∀ n ∈ f, Ht N n.v
  s : ∀ n ∈ f, Ht N n.s
  k : ∀ n ∈ f, Ht S n.k
  ln : ∀ n ∈ f, ∀ m ∈ f, SmL n m.x ∧ Ht N (lineAt n m.x)
  ok : OkN (hbN f).1
def upC (f : List Nd) (high : Option Rat) : List Nd := match high with
  | none => f
  | some h => sumC (hbC (subC f (lineC h))) (lineC h)
def upLow (f : List Nd) (l : Rat) : List Nd := sumC (hsC (subC f (lineC l))) (lineC l)
structure LbOk (f : List Nd) (low high : Option Rat) : Prop where
  rt : RtOk low high
  ne : f ≠ []
  kl : Sm (f.getLast?.getD n0).k
  hi : ∀ h, high = some h → ¬ h < (f.getLast?.getD n0).k → ScaOk (lineC h) (-1) ∧ SumOk f (scaC (lineC h) (-1)) ∧ (∃ N X S, HbOk (subC f (lineC h)) N X S) ∧ SumOk (hbC (subC f (lineC h))) (lineC h)
  lo : (∀ h, high = some h → ¬ h < (f.getLast?.getD n0).k) → ∀ l, low = some l → ScaOk (lineC l) (-1) ∧ SumOk f (scaC (lineC l) (-1)) ∧ (∃ N X S, HsOk (subC f (lineC l)) N X S) ∧ SumOk (hsC (subC f (lineC l))) (lineC l) ∧ LarOk (upC f high) (upLow f l)
theorem lbC_none {f : List Nd} {low : Option Rat} {h : Rat} (q : h < (f.getLast?.getD n0).k) : lbC f low (some h) = none := by
  unfold lbC
  exact if_pos (decide_eq_true q)
theorem lbC_some {f : List Nd} {low high : Option Rat} (q : ∀ h, high = some h → ¬ h < (f.getLast?.getD n0).k) : lbC f low high = some (match low with | none => upC f high | some l => larC (upC f high) (upLow f l)) := by
  unfold lbC
  cases high with
  | none => rfl
  | some h => exact if_neg (by rw [decide_eq_true_iff]; exact q h rfl)
def curD : Option (List Nd) → KD
  | none => .d .none
  | some g => .c g
theorem fallN_some (n : Nd) (r l : Rat) : fallN n (some (r, l)) = if lineAt n l < r then (if r < n.s then [⟨n.x, lar n.v n.s, n.s, n.k⟩, ⟨n.x + (r - n.s) / n.k, r, r, 0⟩] else [⟨n.x, lar n.v r, r, 0⟩]) else [⟨n.x, lar n.v n.s, n.s, n.k⟩] := rfl
theorem hbSome_some (n : Nd) (r l : Rat) : hbSome n (some (r, l)) = if n.k < 0 then fallN n (some (r, l)) else [⟨n.x, lar n.v (lar r (lineAt n l)), lar r (lineAt n l), 0⟩] := rfl
theorem hbSome_none (n : Nd) : hbSome n none = fallN n none := rfl
theorem fall_len (n : Nd) (o : Option (Rat × Rat)) : (fallN n o).length ≤ 2 := by
  unfold fallN
  cases o with
  | none => exact Nat.le_of_ble_eq_true rfl
  | some p =>
    show (if _ then _ else _ : List Nd).length ≤ 2
    split
    · split <;> exact Nat.le_of_ble_eq_true rfl
    · exact Nat.le_of_ble_eq_true rfl
theorem hbSome_len (n : Nd) (o : Option (Rat × Rat)) : (hbSome n o).length ≤ 2 := by
  unfold hbSome
  cases o with
  | none => exact fall_len n none
  | some p =>
    show (if _ then _ else _ : List Nd).length ≤ 2
    split
    · exact fall_len n _
    · exact Nat.le_of_ble_eq_true rfl
theorem hbN_len : ∀ f : List Nd, (hbN f).1.length ≤ 2 * f.length
  | [] => Nat.le_refl _
  | n :: t => by
    have h1 := hbN_len t
    have h2 := hbSome_len n (hbN t).2
    show (hbSome n (hbN t).2 ++ (hbN t).1).length ≤ _
    rw [List.length_append, List.length_cons]
    omega
theorem fall_head {N : Nat} {n : Nd} {o : Option (Rat × Rat)} (hv : Ht N n.v) (hs : Ht N n.s) (ho : ∀ r l, o = some (r, l) → Ht N r) : ∃ a t, fallN n o = a :: t ∧ Ht N a.v := by
  cases o with
  | none => exact ⟨_, _, rfl, hv.lar hs⟩
  | some p =>
    obtain ⟨r, l⟩ := p
    rw [fallN_some]
    split
    · split
      · exact ⟨_, _, rfl, hv.lar hs⟩
      · exact ⟨_, _, rfl, hv.lar (ho r l rfl)⟩
    · exact ⟨_, _, rfl, hv.lar hs⟩
theorem hbSome_head {N : Nat} {n : Nd} {o : Option (Rat × Rat)} (hv : Ht N n.v) (hs : Ht N n.s) (ho : ∀ r l, o = some (r, l) → Ht N r ∧ Ht N (lineAt n l)) : ∃ a t, hbSome n o = a :: t ∧ Ht N a.v := by
  cases o with
  | none =>
    rw [hbSome_none]
    exact fall_head hv hs fun _ _ z => (by cases z)
  | some p =>
    obtain ⟨r, l⟩ := p
    rw [hbSome_some]
    split
    · exact fall_head hv hs fun r' l' z => (ho r' l' z).1
    · exact ⟨_, _, rfl, hv.lar ((ho r l rfl).1.lar (ho r l rfl).2)⟩
section
variable {P : Program} {w : World} {c : Cv} {mg : Str → Option Value} {base : Heap} {aZ aT : Addr}
def R_falling_nodes (ks : List KD) (kd : KD) : Prop := ∃ (n : Nd) (o : Option (Rat × Rat)), ks = [.d (nodeD n), .d (optD (o.map (·.1))), .d (optD (o.map (·.2)))] ∧ FallOk n o ∧ kd = .l ((fallN n o).map nodeD)
theorem c_falling_nodes (T : Txt c mg aZ aT) (S : Src c.K mg "falling_nodes" t_falling_nodes ["node", "rest", "last"]) (c_plus : Def P w c.K mg base "plus" ["first", "second"] 3 (spF c R_plus)) (c_is_less : Def P w c.K mg base "is_less" ["first", "second"] 1 (spF c R_is_less)) (c_quotient : Def P w c.K mg base "quotient" ["first", "second"] 3 (spF c R_quotient)) (c_minus : Def P w c.K mg base "minus" ["first", "second"] 4 (spF c R_minus)) (c_larger_of : Def P w c.K mg base "larger_of" ["first", "second"] 2 (spF c R_larger_of)) (c_reached_by : Def P w c.K mg base "reached_by" ["node", "income"] 5 (spF c R_reached_by)) :
    Def P w c.K mg base "falling_nodes" ["node", "rest", "last"] 6 (spF c R_falling_nodes) := S.ok fun f fd F => by
  refine F.ok sc_falling_nodes (fun vs H Q E h => ?_) (fun cdv A outer s H vs Q E hr h => ?_)
  · obtain ⟨_, _, hk, ⟨_, _, rfl, _⟩, _⟩ := h
    exact hk.length
  · obtain ⟨_, _, hk, ⟨n, o, rfl, ho, rfl⟩, k⟩ := h
    obtain ⟨v0, v1, v2, rfl, r0, r1, r2⟩ := KpAll.three hk
    refine ⟨_, (pss_cons (ps_asg (pv 0) (pg_tup rfl (pgs_cons (pg_name (i := 3) sc_falling_nodes.nd rfl (Or.inl rfl)) (pgs_cons (pg_name (i := 4) sc_falling_nodes.nd rfl (Or.inl rfl)) (pgs_cons (pg_name (i := 5) sc_falling_nodes.nd rfl (Or.inl rfl)) (pgs_cons (pg_name (i := 6) sc_falling_nodes.nd rfl (Or.inl rfl)) pgs_nil))))))
      (pss_cons (ps_if (PW.pt (pw_or (pt_cmpR op_isN (pv 1) pe_non (nomark _)) (pw_or1 (pt_not (pt_val (c_is_less.pe (hr.mono (by decide)) (by rfl) (pa_cons (c_reached_by.pe (hr.mono (by decide)) (by rfl) (pa_cons (pv 0) (pa_cons (pv 2) pa_nil))) (pa_cons (pv 1) pa_nil)))))))) (pss_one (ps_ret (pe_lst (pa_cons (pe_tup (pa_cons (pv 3) (pa_cons (c_larger_of.pe (hr.mono (by decide)) (by rfl) (pa_cons (pv 4) (pa_cons (pv 5) pa_nil))) (pa_cons (pv 5) (pa_cons (pv 6) pa_nil))))) pa_nil)))) pss_nil)
      (pss_cons (ps_if (pt_not (pt_val (c_is_less.pe (hr.mono (by decide)) (by rfl) (pa_cons (pv 1) (pa_cons (pv 5) pa_nil))))) (pss_one (ps_ret (pe_lst (pa_cons (pe_tup (pa_cons (pv 3) (pa_cons (c_larger_of.pe (hr.mono (by decide)) (by rfl) (pa_cons (pv 4) (pa_cons (pv 1) pa_nil))) (pa_cons (pv 1) (pa_cons (pe_glob (v := .ref aZ) (by rfl) T.mgZERO rfl) pa_nil))))) pa_nil)))) pss_nil)
      (pss_cons (ps_set (i := 7) sc_falling_nodes.nd rfl (Or.inl rfl) (c_plus.pe (hr.mono (by decide)) (by rfl) (pa_cons (pv 3) (pa_cons (c_quotient.pe (hr.mono (by decide)) (by rfl) (pa_cons (c_minus.pe (hr.mono (by decide)) (by rfl) (pa_cons (pv 1) (pa_cons (pv 5) pa_nil))) (pa_cons (pv 6) pa_nil))) pa_nil))))
      (pss_one (ps_ret (pe_lst (pa_cons (pe_tup (pa_cons (pv 3) (pa_cons (c_larger_of.pe (hr.mono (by decide)) (by rfl) (pa_cons (pv 4) (pa_cons (pv 5) pa_nil))) (pa_cons (pv 5) (pa_cons (pv 6) pa_nil))))) (pa_cons (pe_tup (pa_cons (pv 7) (pa_cons (pv 1) (pa_cons (pv 1) (pa_cons (pe_glob (v := .ref aZ) (by rfl) T.mgZERO rfl) pa_nil))))) pa_nil))))))))), ?_⟩
    refine n_tup4 (ev_var rfl r0) fun v3 v4 v5 v6 H1 e1 r3 r4 r5 r6 => ?_
    have r3 : Kp c H1 v3 (.d (numD n.x)) := r3
    have r4 : Kp c H1 v4 (.d (numD n.v)) := r4
    have r5 : Kp c H1 v5 (.d (numD n.s)) := r5
    have r6 : Kp c H1 v6 (.d (numD n.k)) := r6
    have r0 := r0.mono e1
    have r1 := r1.mono e1
    have r2 := r2.mono e1
    have first : ∀ {H2}, Ex H1 H2 → EvF c (tLst (tCons (tTup (tCons (tVar 3) (tCons (tCall (spF c R_larger_of) [] E0 (tCons (tVar 4) (tCons (tVar 5) tNil))) (tCons (tVar 5) (tCons (tVar 6) tNil))))) tNil)) [some v0, some v1, some v2, some v3, some v4, some v5, some v6, none] H2 [nodeD ⟨n.x, lar n.v n.s, n.s, n.k⟩] := fun e2 =>
      ef_lst (ed_cons (ev_tup (ed_cons (ev_var rfl (r3.mono e2)) (ed_cons (ev_call (ea_cons (ev_var rfl (r4.mono e2)) (ea_cons (ev_var rfl (r5.mono e2)) ea_nil)) ⟨n.v, n.s, rfl, ho.v, ho.s, rfl⟩) (ed_cons (ev_var rfl (r5.mono e2)) (ed_cons (ev_var rfl (r6.mono e2)) ed_nil))))) ed_nil)
    cases o with
    | none =>
      refine n_ifE (b := true) (et_or (a := true) (b := true) (et_test (ev_isN (ev_var rfl r1))) fun z => nomatch z) (fun _ H2 e2 => ?_) fun z => nomatch z
      exact s_ret (kd := .l ((fallN n none).map nodeD)) (EvF.k (first e2)) fun v H3 e3 r => k v H3 ((e1.trans e2).trans e3) r
    | some p =>
      obtain ⟨rest, last⟩ := p
      obtain ⟨hk0, hl, hla, hr, hd, hq⟩ := ho.o rest last rfl
      have r1 : Kp c H1 v1 (.d (numD rest)) := r1
      have r2 : Kp c H1 v2 (.d (numD last)) := r2
      refine n_ifE (b := !decide (lineAt n last < rest)) (et_is (et_or (a := false) (et_test (ev_isN (ev_var rfl r1))) fun _ => et_not (et_val (ev_call (ea_cons (ev_call (ea_cons (ev_var rfl r0) (ea_cons (ev_var rfl r2) ea_nil)) ⟨n, last, rfl, hl, rfl⟩) (ea_cons (ev_var rfl r1) ea_nil)) ⟨_, rest, rfl, hla, hr, rfl⟩))) (Bool.false_or _)) (fun hb H2 e2 => ?_) fun hb H2 e2 => ?_
      · have hb : ¬ lineAt n last < rest := by simpa using hb
        refine s_ret (kd := .l ((fallN n (some (rest, last))).map nodeD)) (ev_is (EvF.k (first e2)) ?_) fun v H3 e3 r => k v H3 ((e1.trans e2).trans e3) r
        rw [show fallN n (some (rest, last)) = [⟨n.x, lar n.v n.s, n.s, n.k⟩] from if_neg hb]
        rfl
      · have hb : lineAt n last < rest := by simpa using hb
        have r1 := r1.mono e2
        have s5 := r5.mono e2
        refine n_ifE (b := !decide (rest < n.s)) (et_not (et_val (ev_call (ea_cons (ev_var rfl r1) (ea_cons (ev_var rfl s5) ea_nil)) ⟨rest, n.s, rfl, hr, ho.s, rfl⟩))) (fun hc H3 e3 => ?_) fun hc H3 e3 => ?_
        · have hc : ¬ rest < n.s := by simpa using hc
          refine s_ret (kd := .l ((fallN n (some (rest, last))).map nodeD)) (ev_is (EvF.k (ef_lst (ds := [nodeD ⟨n.x, lar n.v rest, rest, 0⟩]) (ed_cons (ev_tup (ed_cons (ev_var rfl ((r3.mono e2).mono e3)) (ed_cons (ev_call (ea_cons (ev_var rfl ((r4.mono e2).mono e3)) (ea_cons (ev_var rfl (r1.mono e3)) ea_nil)) ⟨n.v, rest, rfl, ho.v, hr, rfl⟩) (ed_cons (ev_var rfl (r1.mono e3)) (ed_cons (ev_glob (kd := .d (numD 0)) (T.zero H3)) ed_nil))))) ed_nil))) ?_) fun v H4 e4 r => k v H4 (((e1.trans e2).trans e3).trans e4) r
          rw [show fallN n (some (rest, last)) = [⟨n.x, lar n.v rest, rest, 0⟩] from (if_pos hb).trans (if_neg hc)]
          rfl
        · have hc : rest < n.s := by simpa using hc
          have r1 := r1.mono e3
          refine n_asg (kd := .d (numD (n.x + (rest - n.s) / n.k))) (ev_call (ea_cons (ev_var rfl ((r3.mono e2).mono e3)) (ea_cons (ev_call (ea_cons (ev_call (ea_cons (ev_var rfl r1) (ea_cons (ev_var rfl (s5.mono e3)) ea_nil)) ⟨rest, n.s, rfl, hr, ho.s, rfl⟩) (ea_cons (ev_var rfl ((r6.mono e2).mono e3)) ea_nil)) ⟨_, n.k, rfl, hd, ho.k, hk0, rfl⟩) ea_nil)) ⟨n.x, _, rfl, ho.x, hq, rfl⟩) fun v7 H4 e4 r7 => ?_
          have r1 := r1.mono e4
          have e24 := (e2.trans e3).trans e4
          refine s_ret (kd := .l ((fallN n (some (rest, last))).map nodeD)) (ev_is (EvF.k (ef_lst (ds := [nodeD ⟨n.x, lar n.v n.s, n.s, n.k⟩, nodeD ⟨n.x + (rest - n.s) / n.k, rest, rest, 0⟩]) (ed_cons (ev_tup (ed_cons (ev_var rfl (r3.mono e24)) (ed_cons (ev_call (ea_cons (ev_var rfl (r4.mono e24)) (ea_cons (ev_var rfl (r5.mono e24)) ea_nil)) ⟨n.v, n.s, rfl, ho.v, ho.s, rfl⟩) (ed_cons (ev_var rfl (r5.mono e24)) (ed_cons (ev_var rfl (r6.mono e24)) ed_nil))))) (ed_cons (ev_tup (ed_cons (ev_var rfl r7) (ed_cons (ev_var rfl r1) (ed_cons (ev_var rfl r1) (ed_cons (ev_glob (kd := .d (numD 0)) (T.zero H4)) ed_nil))))) ed_nil)))) ?_) fun v H5 e5 r => k v H5 ((e1.trans e24).trans e5) r
          rw [show fallN n (some (rest, last)) = [⟨n.x, lar n.v n.s, n.s, n.k⟩, ⟨n.x + (rest - n.s) / n.k, rest, rest, 0⟩] from (if_pos hb).trans (if_pos hc)]
          rfl
def R_highest_behind (ks : List KD) (kd : KD) : Prop := ∃ (f : List Nd) (N X S : Nat), ks = [.c f] ∧ HbOk f N X S ∧ kd = .c (hbC f)
theorem c_highest_behind (T : Txt c mg aZ aT) (S : Src c.K mg "highest_behind" t_highest_behind ["curve"]) (c_Curve : DefM P w c.K mg base c.C "__init__" ["self", "nodes"] 6 (spInit c)) (c_is_less : Def P w c.K mg base "is_less" ["first", "second"] 1 (spF c R_is_less)) (c_falling_nodes : Def P w c.K mg base "falling_nodes" ["node", "rest", "last"] 6 (spF c R_falling_nodes)) (c_larger_of : Def P w c.K mg base "larger_of" ["first", "second"] 2 (spF c R_larger_of)) (c_reached_by : Def P w c.K mg base "reached_by" ["node", "income"] 5 (spF c R_reached_by)) :
    Def P w c.K mg base "highest_behind" ["curve"] 8 (spF c R_highest_behind) := S.ok fun f fd F => by
  refine F.ok sc_highest_behind (fun vs H Q E h => ?_) (fun cdv A outer s H vs Q E hr h => ?_)
  · obtain ⟨_, _, hk, ⟨_, _, _, _, rfl, _⟩, _⟩ := h
    exact hk.length
  · obtain ⟨_, _, hk, ⟨g, N, X, S, rfl, ho, rfl⟩, k⟩ := h
    obtain ⟨v0, rfl, r0⟩ := KpAll.one hk
    refine ⟨_, (pss_cons (ps_par3 (i := 1) (j := 2) (l := 3) (by rfl) sc_highest_behind.nd rfl rfl rfl (by decide) (by decide) (by decide) rfl rfl rfl (pa_cons (pe_lst pa_nil) (pa_cons pe_non (pa_cons pe_non pa_nil))) (by rfl))
      (pss_cons (ps_for PassesOwn.never rfl (piT c.K rfl (pe_revT c.K rfl (peF c.K rfl (pv 0) rfl))) (pg_name (i := 4) sc_highest_behind.nd rfl (Or.inl rfl)) (pss_cons (ps_asg (pv 4) (pg_tup rfl (pgs_cons (pg_name (i := 5) sc_highest_behind.nd rfl (Or.inl rfl)) (pgs_cons (pg_name (i := 6) sc_highest_behind.nd rfl (Or.inl rfl)) (pgs_cons (pg_name (i := 7) sc_highest_behind.nd rfl (Or.inl rfl)) (pgs_cons (pg_name (i := 8) sc_highest_behind.nd rfl (Or.inl rfl)) pgs_nil))))))
      (pss_cons (ps_if (PW.pt (pw_or (pt_cmpR op_isN (pv 2) pe_non (nomark _)) (pw_or1 (pt_val (c_is_less.pe (hr.mono (by decide)) (by rfl) (pa_cons (pv 8) (pa_cons (pe_glob (v := .ref aZ) (by rfl) T.mgZERO rfl) pa_nil))))))) (pss_one (ps_set (i := 9) sc_highest_behind.nd rfl (Or.inl rfl) (c_falling_nodes.pe (hr.mono (by decide)) (by rfl) (pa_cons (pv 4) (pa_cons (pv 2) (pa_cons (pv 3) pa_nil)))))) (pss_cons (ps_set (i := 10) sc_highest_behind.nd rfl (Or.inl rfl) (c_larger_of.pe (hr.mono (by decide)) (by rfl) (pa_cons (pv 2) (pa_cons (c_reached_by.pe (hr.mono (by decide)) (by rfl) (pa_cons (pv 4) (pa_cons (pv 3) pa_nil))) pa_nil))))
      (pss_one (ps_set (i := 9) sc_highest_behind.nd rfl (Or.inl rfl) (pe_lst (pa_cons (pe_tup (pa_cons (pv 5) (pa_cons (c_larger_of.pe (hr.mono (by decide)) (by rfl) (pa_cons (pv 6) (pa_cons (pv 10) pa_nil))) (pa_cons (pv 10) (pa_cons (pe_glob (v := .ref aZ) (by rfl) T.mgZERO rfl) pa_nil))))) pa_nil))))))
      (pss_cons (ps_set (i := 1) sc_highest_behind.nd rfl (Or.inl rfl) (pe_op op_cat (pv 9) (pv 1)))
      (pss_one (ps_par (i := 2) (j := 3) (by rfl) sc_highest_behind.nd rfl rfl (by decide) rfl rfl (pa_cons (pe_ix (ixT c.K rfl) (pe_ix (ixL c.K rfl) (pv 9) pe_int (fun _ _ => rfl)) pe_int (fun _ _ => rfl)) (pa_cons (pv 5) pa_nil)) (by rfl)))))))
      (pss_one (ps_ret (c_Curve.mk T rfl (hr.mono (by decide)) (by rfl) (pa_cons (pv 1) pa_nil)))))), ?_⟩
    have hbig := ho.big
    have sN : ∀ {q : Rat}, Ht N q → Sm q := fun h => h.mono (by omega)
    refine n_par3 (c := c) (ea_cons (EvF.k (ef_lst ed_nil)) (ea_cons ev_non (ea_cons ev_non ea_nil))) fun u1 u2 u3 H1 e1 q1 q2 q3 => ?_
    refine n_forT nodeD g.reverse (ev_is (ev_revT (ev_nodes T (ev_var rfl (r0.mono e1)))) (by rw [List.map_reverse])) fun H2 e2 => ⟨fun j σ' H' => ∃ x1 x2 x3 w4 w5 w6 w7 w8 w9 w10, σ' = [some v0, some x1, some x2, some x3, w4, w5, w6, w7, w8, w9, w10] ∧ Ex H2 H' ∧
      Kp c H' x1 (.l ((hbN (g.reverse.take j).reverse).1.map nodeD)) ∧ Kp c H' x2 (.d (optD ((hbN (g.reverse.take j).reverse).2.map (·.1)))) ∧ Kp c H' x3 (.d (optD ((hbN (g.reverse.take j).reverse).2.map (·.2)))) ∧
      (∀ r l, (hbN (g.reverse.take j).reverse).2 = some (r, l) → Ht N r ∧ ∃ m ∈ g, m.x = l), ?_, ?_, ?_, ?_⟩
    · exact ⟨u1, u2, u3, none, none, none, none, none, none, none, rfl, Ex.refl _, q1.mono e2, q2.mono e2, q3.mono e2, fun _ _ z => nomatch z⟩
    · rintro j σ' H' ⟨x1, x2, x3, w4, w5, w6, w7, w8, w9, w10, _, e, _⟩
      exact Tx.of e
    · rintro j n v σ' H' hj ⟨x1, x2, x3, w4, w5, w6, w7, w8, w9, w10, rfl, e3, y1, y2, y3, y4⟩ rv
      have hn : n ∈ g := List.mem_reverse.mp (List.mem_of_getElem? hj)
      have rv : Kp c H' v (.d (nodeD n)) := rv
      have hlt := (List.getElem?_eq_some_iff.mp hj).1
      rw [List.length_reverse] at hlt
      have tk : (g.reverse.take (j + 1)).reverse = n :: (g.reverse.take j).reverse := by
        rw [List.take_add_one, hj, List.reverse_append]
        rfl
      have hlen : (hbN (g.reverse.take j).reverse).1.length ≤ 800 := by
        have := hbN_len (g.reverse.take j).reverse
        have hl := ho.len
        simp only [List.length_reverse, List.length_take] at this
        omega
      generalize hB : hbN (g.reverse.take j).reverse = B at y1 y2 y3 y4 hlen
      obtain ⟨fs, o⟩ := B
      have hNext : hbN (n :: (g.reverse.take j).reverse) = (hbSome n o ++ fs, some (((hbSome n o).head?.getD n0).v, n.x)) := by
        show (hbSome n (hbN (g.reverse.take j).reverse).2 ++ (hbN (g.reverse.take j).reverse).1, some (((hbSome n (hbN (g.reverse.take j).reverse).2).head?.getD n0).v, n.x)) = _
        rw [hB]
      rw [← tk] at hNext
      have y1 : Kp c H' x1 (.l (fs.map nodeD)) := y1
      have y2 : Kp c H' x2 (.d (optD (o.map (·.1)))) := y2
      have y3 : Kp c H' x3 (.d (optD (o.map (·.2)))) := y3
      have y4 : ∀ r l, o = some (r, l) → Ht N r ∧ ∃ m ∈ g, m.x = l := y4
      have hlen : fs.length ≤ 800 := hlen
      have hln : ∀ r l, o = some (r, l) → SmL n l ∧ Ht N (lineAt n l) := by
        intro r l z
        obtain ⟨m, hm, rfl⟩ := (y4 r l z).2
        exact ho.ln n hn m hm
      have nk : Sm n.k := (ho.k n hn).mono (by omega)
      have nx : Sm n.x := (ho.x n hn).mono (by omega)
      refine n_tup4 (ev_var rfl rv) fun v5 v6 v7 v8 H3 e4 r5 r6 r7 r8 => ?_
      have r5 : Kp c H3 v5 (.d (numD n.x)) := r5
      have r6 : Kp c H3 v6 (.d (numD n.v)) := r6
      have r7 : Kp c H3 v7 (.d (numD n.s)) := r7
      have r8 : Kp c H3 v8 (.d (numD n.k)) := r8
      have rv := rv.mono e4
      have y1 := y1.mono e4
      have y2 := y2.mono e4
      have y3 := y3.mono e4
      refine n_mid (fun σ' H' => ∃ u w10, σ' = [some v0, some x1, some x2, some x3, some v, some v5, some v6, some v7, some v8, some u, w10] ∧ Ex H3 H' ∧ Kp c H' u (.l ((hbSome n o).map nodeD))) ?_ fun fin => ?_
      · rintro σ' H' ⟨u, w10, rfl, z1, z2⟩
        obtain ⟨a, t, ha, hav⟩ := hbSome_head (o := o) (ho.v n hn) (ho.s n hn) fun r l z => ⟨(y4 r l z).1, (hln r l z).2⟩
        have hsl := hbSome_len n o
        refine n_asg (kd := .l ((hbSome n o ++ fs).map nodeD)) (ev_is (EvF.k (ef_cat (ev_var rfl z2) (ev_var rfl (y1.mono z1)) (by rw [List.length_map, List.length_map]; omega))) (by rw [List.map_append])) fun p1 H4 e5 p2 => ?_
        refine s_par (ea_cons (ev_ixT (ds := [numD a.x, numD a.v, numD a.s, numD a.k]) (ev_ixL (ds := (hbSome n o).map nodeD) (ev_var rfl (z2.mono e5)) ev_int ?_) ev_int (atI_nat (j := 1) rfl)) (ea_cons (ev_var rfl ((r5.mono z1).mono e5)) ea_nil)) fun p3 p4 H5 e6 p5 p6 => ?_
        · rw [ha]
          exact atI_nat (j := 0) rfl
        · have hh : ((hbSome n o).head?.getD n0) = a := by rw [ha]; rfl
          rw [hh] at hNext
          refine ⟨p1, p3, p4, _, _, _, _, _, _, _, rfl, (((e3.trans e4).trans z1).trans e5).trans e6, ?_, ?_, ?_, ?_⟩
          · rw [hNext]; exact p2.mono e6
          · rw [hNext]; exact p5
          · rw [hNext]; exact p6
          · rw [hNext]
            intro r l z
            cases z
            exact ⟨hav, n, hn, rfl⟩
      · cases o with
        | none =>
          refine n_if (b := true) (et_or (a := true) (b := true) (et_test (ev_isN (ev_var rfl y2))) fun z => nomatch z) (fun _ H4 e5 => ?_) fun z => nomatch z
          exact s_asg (ev_call (ea_cons (ev_var rfl (rv.mono e5)) (ea_cons (ev_var rfl (y2.mono e5)) (ea_cons (ev_var rfl (y3.mono e5)) ea_nil))) ⟨n, none, rfl, ⟨sN (ho.v n hn), sN (ho.s n hn), nx, nk, fun _ _ z => nomatch z⟩, rfl⟩) fun u H5 e6 r => fin _ _ ⟨u, _, rfl, e5.trans e6, r⟩
        | some p =>
          obtain ⟨rest, last⟩ := p
          have hr := (y4 rest last rfl).1
          have hl := hln rest last rfl
          refine n_if (b := decide (n.k < 0)) (et_is (et_or (a := false) (et_test (ev_isN (ev_var rfl y2))) fun _ => et_val (ev_call (ea_cons (ev_var rfl r8) (ea_cons (ev_glob (kd := .d (numD 0)) (T.zero H3)) ea_nil)) ⟨n.k, 0, rfl, nk, ht_zero.mono (by decide), rfl⟩)) (Bool.false_or _)) (fun hb H4 e5 => ?_) fun hb H4 e5 => ?_
          · have hb : n.k < 0 := of_decide_eq_true hb
            have hk0 : n.k ≠ 0 := fun z => by
              rw [z] at hb
              exact absurd hb Rat.lt_irrefl
            have h1 : Ht (2 * N + 1) (rest - n.s) := (hr.sub (ho.s n hn)).mono (by omega)
            have h2 : Ht (2 * N + 1 + S) ((rest - n.s) / n.k) := h1.div (ho.k n hn) hk0
            refine s_asg (ev_is (ev_call (R := R_falling_nodes) (ea_cons (ev_var rfl (rv.mono e5)) (ea_cons (ev_var rfl (y2.mono e5)) (ea_cons (ev_var rfl (y3.mono e5)) ea_nil))) ⟨n, some (rest, last), rfl, ⟨sN (ho.v n hn), sN (ho.s n hn), nx, nk, fun r l z => ?_⟩, rfl⟩) ?_) fun u H5 e6 r => fin _ _ ⟨u, _, rfl, e5.trans e6, r⟩
            · cases z
              exact ⟨hk0, hl.1, sN hl.2, sN hr, h1.mono (by omega), h2.mono (by omega)⟩
            · rw [show hbSome n (some (rest, last)) = fallN n (some (rest, last)) from if_pos hb]
          · have hb : ¬ n.k < 0 := of_decide_eq_false hb
            have y2 : Kp c H3 x2 (.d (numD rest)) := y2
            have y3 : Kp c H3 x3 (.d (numD last)) := y3
            refine n_asg (ev_call (ea_cons (ev_var rfl (y2.mono e5)) (ea_cons (ev_call (ea_cons (ev_var rfl (rv.mono e5)) (ea_cons (ev_var rfl (y3.mono e5)) ea_nil)) ⟨n, last, rfl, hl.1, rfl⟩) ea_nil)) ⟨rest, _, rfl, sN hr, sN hl.2, rfl⟩) fun v10 H5 e6 r10 => ?_
            have e56 := e5.trans e6
            refine s_asg (ev_is (EvF.k (ef_lst (ds := [nodeD ⟨n.x, lar n.v (lar rest (lineAt n last)), lar rest (lineAt n last), 0⟩]) (ed_cons (ev_tup (ed_cons (ev_var rfl (r5.mono e56)) (ed_cons (ev_call (ea_cons (ev_var rfl (r6.mono e56)) (ea_cons (ev_var rfl r10) ea_nil)) ⟨n.v, _, rfl, sN (ho.v n hn), sN (hr.lar hl.2), rfl⟩) (ed_cons (ev_var rfl r10) (ed_cons (ev_glob (kd := .d (numD 0)) (T.zero H5)) ed_nil))))) ed_nil))) ?_) fun u H6 e7 r => fin _ _ ⟨u, _, rfl, e56.trans e7, r⟩
            rw [show hbSome n (some (rest, last)) = [⟨n.x, lar n.v (lar rest (lineAt n last)), lar rest (lineAt n last), 0⟩] from if_neg hb]
            rfl
    · rintro σ' H' ⟨x1, x2, x3, w4, w5, w6, w7, w8, w9, w10, rfl, e3, y1, y2, y3, y4⟩
      rw [List.take_length, List.reverse_reverse] at y1
      exact s_ret (ev_make (ev_var rfl y1) ho.ok) fun v H3 e4 r => k v H3 (((e1.trans e2).trans e3).trans e4) r
def R_least_between (ks : List KD) (kd : KD) : Prop := ∃ (f : List Nd) (low high : Option Rat), ks = [.c f, .d (optD low), .d (optD high)] ∧ LbOk f low high ∧ kd = curD (lbC f low high)
theorem c_least_between (T : Txt c mg aZ aT) (S : Src c.K mg "least_between" t_least_between ["curve", "low", "high"]) (c_check_rates : Def P w c.K mg base "check_rates" ["low", "high"] 3 (spF c R_check_rates)) (c_is_less : Def P w c.K mg base "is_less" ["first", "second"] 1 (spF c R_is_less)) (c_line_curve : Def P w c.K mg base "line_curve" ["slope"] 8 (spF c R_line_curve)) (c_add : DefM P w c.K mg base c.C "__add__" ["self", "other"] 9 (spF c R_add)) (c_larger : DefM P w c.K mg base c.C "larger" ["self", "other"] 9 (spF c R_larger)) (c_highest_behind : Def P w c.K mg base "highest_behind" ["curve"] 8 (spF c R_highest_behind)) (c_sub : DefM P w c.K mg base c.C "__sub__" ["self", "other"] 9 (spF c R_sub)) (c_highest_so_far : Def P w c.K mg base "highest_so_far" ["curve"] 8 (spF c R_highest_so_far)) :
    Def P w c.K mg base "least_between" ["curve", "low", "high"] 12 (spF c R_least_between) := S.ok fun f fd F => by
  refine F.ok sc_least_between (fun vs H Q E h => ?_) (fun cdv A outer s H vs Q E hr h => ?_)
  · obtain ⟨_, _, hk, ⟨_, _, _, rfl, _⟩, _⟩ := h
    exact hk.length
  · obtain ⟨_, _, hk, ⟨g, low, high, rfl, ho, rfl⟩, k⟩ := h
    obtain ⟨v0, v1, v2, rfl, r0, r1, r2⟩ := KpAll.three hk
    refine ⟨_, (pss_cons (ps_expr (c_check_rates.pe (hr.mono (by decide)) (by rfl) (pa_cons (pv 1) (pa_cons (pv 2) pa_nil))))
      (pss_cons (ps_set (i := 3) sc_least_between.nd rfl (Or.inl rfl) (pv 0))
      (pss_cons (ps_if (pt_cmpR op_notN (pv 2) pe_non (nomark _)) (pss_cons (ps_if (pt_val (c_is_less.pe (hr.mono (by decide)) (by rfl) (pa_cons (pv 2) (pa_cons (pe_ix (ixT c.K rfl) (pe_ix (ixT c.K rfl) (peF c.K rfl (pv 0) rfl) (pe_un un_neg pe_int) (fun _ _ => rfl)) pe_int (fun _ _ => rfl)) pa_nil)))) (pss_one (ps_ret pe_non)) pss_nil)
      (pss_cons (ps_set (i := 4) sc_least_between.nd rfl (Or.inl rfl) (c_line_curve.pe (hr.mono (by decide)) (by rfl) (pa_cons (pv 2) pa_nil)))
      (pss_one (ps_set (i := 3) sc_least_between.nd rfl (Or.inl rfl) (pe_op (c_add.add T rfl (hr.mono (by decide))) (c_highest_behind.pe (hr.mono (by decide)) (by rfl) (pa_cons (pe_op (c_sub.sub T rfl (hr.mono (by decide))) (pv 0) (pv 4)) pa_nil)) (pv 4)))))) pss_nil)
      (pss_cons (ps_if (pt_cmpR op_notN (pv 1) pe_non (nomark _)) (pss_cons (ps_set (i := 4) sc_least_between.nd rfl (Or.inl rfl) (c_line_curve.pe (hr.mono (by decide)) (by rfl) (pa_cons (pv 1) pa_nil)))
      (pss_one (ps_set (i := 3) sc_least_between.nd rfl (Or.inl rfl) (c_larger.meth T rfl (hr.mono (by decide)) (pv 3) (pa_cons (pe_op (c_add.add T rfl (hr.mono (by decide))) (c_highest_so_far.pe (hr.mono (by decide)) (by rfl) (pa_cons (pe_op (c_sub.sub T rfl (hr.mono (by decide))) (pv 0) (pv 4)) pa_nil)) (pv 4)) pa_nil))))) pss_nil)
      (pss_one (ps_ret (pv 3))))))), ?_⟩
    refine n_drop (ev_call (ea_cons (ev_var rfl r1) (ea_cons (ev_var rfl r2) ea_nil)) ⟨low, high, rfl, ho.rt, rfl⟩) fun H1 e1 => ?_
    refine n_asg (ev_var rfl (r0.mono e1)) fun v3 H2 e2 r3 => ?_
    have E2 := e1.trans e2
    refine n_mid (fun σ' H' => ∃ u w4, σ' = [some v0, some v1, some v2, some u, w4] ∧ Ex H2 H' ∧ Kp c H' u (.c (upC g high)) ∧ ∀ h, high = some h → ¬ h < (g.getLast?.getD n0).k) ?_ fun fin => ?_
    · rintro σ' H' ⟨u, w4, rfl, y1, y2, y3⟩
      rw [lbC_some y3] at k
      have E3 := E2.trans y1
      cases low with
      | none =>
        refine n_ifF (et_test (ev_notN (ev_var rfl (r1.mono E3)))) fun H4 e4 => ?_
        exact s_ret (ev_var rfl (y2.mono e4)) fun v H5 e5 r => k v H5 ((E3.trans e4).trans e5) r
      | some l =>
        obtain ⟨o1, o2, ⟨N, X, S, o3⟩, o4, o5⟩ := ho.lo y3 l rfl
        refine n_ifE (b := true) (et_test (ev_notN (ev_var rfl (r1.mono E3)))) (fun _ H4 e4 => ?_) fun z => nomatch z
        have rl : Kp c H4 v1 (.d (numD l)) := (r1.mono E3).mono e4
        refine n_asg (ev_call (ea_cons (ev_var rfl rl) ea_nil) ⟨l, rfl, ho.rt.lo l rfl, rfl⟩) fun v4 H5 e5 r4 => ?_
        have e45 := e4.trans e5
        refine s_asg (ev_meth (R := R_larger) (ev_var rfl (y2.mono e45)) (ev_ownB (R := R_add) (ev_call (ea_cons (ev_ownB (R := R_sub) (ev_var rfl ((r0.mono E3).mono e45)) (ev_var rfl r4) ⟨g, lineC l, rfl, o1, o2, rfl⟩) ea_nil) ⟨_, N, X, S, rfl, o3, rfl⟩) (ev_var rfl r4) ⟨_, lineC l, rfl, o4, rfl⟩) ⟨_, _, rfl, o5, rfl⟩) fun v5 H6 e6 r5 => ?_
        exact s_ret (ev_var rfl r5) fun v H7 e7 r => k v H7 (((E3.trans e45).trans e6).trans e7) r
    · cases high with
      | none =>
        refine n_ifF (et_test (ev_notN (ev_var rfl (r2.mono E2)))) fun H4 e4 => ?_
        exact fin _ _ ⟨v3, _, rfl, e4, r3.mono e4, fun h z => nomatch z⟩
      | some h =>
        refine n_ifE (b := true) (et_test (ev_notN (ev_var rfl (r2.mono E2)))) (fun _ H4 e4 => ?_) fun z => nomatch z
        have E4 := E2.trans e4
        have rh : Kp c H4 v2 (.d (numD h)) := (r2.mono E2).mono e4
        have s0 := r0.mono E4
        have hlast : L2.atI (g.map nodeD) (-1) = some (nodeD (g.getLast?.getD n0)) := by
          refine atI_back ?_
          rw [List.getLast?_map, List.getLast?_eq_some_getLast ho.ne]
          rfl
        refine n_ifE (b := decide (h < (g.getLast?.getD n0).k)) (et_val (ev_call (ea_cons (ev_var rfl rh) (ea_cons (ev_ixT (ds := [numD (g.getLast?.getD n0).x, numD (g.getLast?.getD n0).v, numD (g.getLast?.getD n0).s, numD (g.getLast?.getD n0).k]) (ev_ixT (ev_nodes T (ev_var rfl s0)) (ev_neg ev_int) hlast) ev_int (atI_nat (j := 3) rfl)) ea_nil)) ⟨h, _, rfl, ho.rt.hi h rfl, ho.kl, rfl⟩)) (fun hb H5 e5 => ?_) fun hb H5 e5 => ?_
        · rw [lbC_none (of_decide_eq_true hb)] at k
          exact s_ret (c := c) ev_non fun v H6 e6 r => k v H6 ((E4.trans e5).trans e6) r
        · have hnb := of_decide_eq_false hb
          obtain ⟨o1, o2, ⟨N, X, S, o3⟩, o4⟩ := ho.hi h rfl hnb
          refine n_asg (ev_call (ea_cons (ev_var rfl (rh.mono e5)) ea_nil) ⟨h, rfl, ho.rt.hi h rfl, rfl⟩) fun v4 H6 e6 r4 => ?_
          have s0 := (s0.mono e5).mono e6
          refine s_asg (ev_ownB (R := R_add) (ev_call (ea_cons (ev_ownB (R := R_sub) (ev_var rfl s0) (ev_var rfl r4) ⟨g, lineC h, rfl, o1, o2, rfl⟩) ea_nil) ⟨_, N, X, S, rfl, o3, rfl⟩) (ev_var rfl r4) ⟨_, lineC h, rfl, o4, rfl⟩) fun v5 H7 e7 r5 => ?_
          exact fin _ _ ⟨v5, _, rfl, ((e4.trans e5).trans e6).trans e7, r5, fun h' z => by cases z; exact hnb⟩
end
end K66
set_option Elab.async false
set_option linter.all false
set_option autoImplicit false
set_option maxRecDepth 100000
set_option maxHeartbeats 4000000
/-! K9: the places near an income, whether one leads to a number, where a number is reached from. -/
namespace K66
open PySem PySem.Spec PyProof.Rows L2
open Evl (Ex EvT)
abbrev placeD (p : Rat × Sd) : PyData := .tuple [numD p.1, sideD p.2]
structure LeadOk (f : List Nd) (low high : Option Rat) (y : Rat) (p : Rat × Sd) : Prop where
  num : NumOk f p.1 p.2
  sx : Sm p.1
  sh : Sm (numAt f p.1 p.2)
  d1 : Sm (y - p.1)
  d2 : Sm (p.1 - y)
  lo : ∀ l, low = some l → Sm l ∧ Sm (l * (y - p.1))
  hi : ∀ h, high = some h → Sm h ∧ Sm (h * (p.1 - y))
structure RcOk (f : List Nd) (low high : Option Rat) (y : Rat) : Prop where
  lb : LbOk f low high
  len : f.length ≤ 300
  xs : ∀ n ∈ f, Sm n.x
  hy : Sm y
  y0 : 0 ≤ y
  g : ∀ g, lbC f low high = some g → NearOk g y ∧ (∀ p ∈ places f y, LeadOk f low high y p) ∧ ∃ p, reachC f low high y = some p
section
variable {P : Program} {w : World} {c : Cv} {mg : Str → Option Value} {base : Heap} {aZ aT : Addr}
def R_places_near (ks : List KD) (kd : KD) : Prop := ∃ (f : List Nd) (y : Rat), ks = [.c f, .d (numD y)] ∧ f.length ≤ 400 ∧ (∀ n ∈ f, Sm n.x) ∧ Sm y ∧ kd = .l ((places f y).map placeD)
theorem placesOf_len (y : Rat) : (placesOf y).length ≤ 3 := by
  unfold placesOf
  split <;> exact Nat.le_of_ble_eq_true rfl
theorem flat_len : ∀ xs : List Rat, (xs.flatMap placesOf).length ≤ 3 * xs.length
  | [] => Nat.le_refl _
  | x :: xs => by
    have h1 := flat_len xs
    have h2 := placesOf_len x
    rw [List.flatMap_cons, List.length_append, List.length_cons]
    omega
theorem c_places_near (T : Txt c mg aZ aT) (S : Src c.K mg "places_near" t_places_near ["curve", "income"]) (c_is_less : Def P w c.K mg base "is_less" ["first", "second"] 1 (spF c R_is_less)) :
    Def P w c.K mg base "places_near" ["curve", "income"] 2 (spF c R_places_near) := S.ok fun f fd F => by
  refine F.ok sc_places_near (fun vs H Q E h => ?_) (fun cdv A outer s H vs Q E hr h => ?_)
  · obtain ⟨_, _, hk, ⟨_, _, rfl, _⟩, _⟩ := h
    exact hk.length
  · obtain ⟨_, _, hk, ⟨g, y, rfl, hl, hx, hy, rfl⟩, k⟩ := h
    obtain ⟨v0, v1, rfl, r0, r1⟩ := KpAll.two hk
    refine ⟨_, (pss_cons (ps_set (i := 2) sc_places_near.nd rfl (Or.inl rfl) (pe_lst pa_nil))
      (pss_cons (ps_for PassesOwn.never rfl (piL c.K rfl (pe_op op_cat (pe_lc (own := [("node", 4)]) (g := gName 4) (by rfl) sc_places_near.nd (piT c.K rfl (peF c.K rfl (pv 0) rfl)) (blkOk_by (own := [("node", 4)]) (N := ["curve", "income", "found", "one", "node"]) (sc := defScope t_places_near) (by decide +kernel)) (fun _ _ _ _ _ => pg_name (i := 4) sc_places_near.nd rfl (Or.inl rfl)) (fun _ _ _ _ _ => pts_nil) (fun _ _ _ _ _ => (pe_ix (ixT c.K rfl) (pv 4) pe_int (fun _ _ => rfl)))) (pe_lst (pa_cons (pv 1) pa_nil)))) (pg_name (i := 3) sc_places_near.nd rfl (Or.inl rfl)) (pss_cons (ps_aug (i := 2) sc_places_near.nd rfl (Or.inl rfl) (pe_lst (pa_cons (pe_tup (pa_cons (pv 3) (pa_cons pe_str pa_nil))) (pa_cons (pe_tup (pa_cons (pv 3) (pa_cons pe_str pa_nil))) pa_nil))) iop_ext)
      (pss_one (ps_if (pt_val (c_is_less.pe (hr.mono (by decide)) (by rfl) (pa_cons (pe_glob (v := .ref aZ) (by rfl) T.mgZERO rfl) (pa_cons (pv 3) pa_nil)))) (pss_one (ps_expr (pe_bm PySem.F.plainAttrs_list PySem.F.slot_list_append PySem.F.type_list_append mt_append (pv 2) (pa_cons (pe_tup (pa_cons (pv 3) (pa_cons pe_str pa_nil))) pa_nil)))) pss_nil))))
      (pss_one (ps_ret (pv 2))))), ?_⟩
    refine n_asgF (ef_lst (c := c) ed_nil) fun l vs0 H1 hl0 e1 hl1 rl => ?_
    obtain rfl : vs0 = [] := by cases rl; rfl
    have hxs : ∀ q ∈ g.map (fun n : Nd => n.x) ++ [y], Sm q := by
      intro q hq
      rcases List.mem_append.mp hq with h | h
      · obtain ⟨n, hn, rfl⟩ := List.mem_map.mp h
        exact hx n hn
      · rw [List.mem_singleton.mp h]
        exact hy
    have hfl := flat_len (g.map (fun n : Nd => n.x) ++ [y])
    have hlen : (g.map (fun n : Nd => n.x) ++ [y]).length ≤ 401 := by
      rw [List.length_append, List.length_map]
      exact Nat.succ_le_succ hl
    have hP : places g y = (g.map (fun n : Nd => n.x) ++ [y]).flatMap placesOf := rfl
    refine n_forF (fun q => numD q) (g.map (fun n : Nd => n.x) ++ [y]) ?_ fun a vs H2 e2 ha0 ha => ⟨fun j σ' H' => ∃ w3 w4 acc, σ' = [some v0, some v1, some (.ref l), w3, w4] ∧ Ex H H' ∧ Tx H2 H' ∧ H' a = some (.lst vs) ∧ H' l = some (.lst acc) ∧ FpAll c.K H' acc ((((g.map (fun n : Nd => n.x) ++ [y]).take j).flatMap placesOf).map placeD), ?_, ?_, ?_, ?_⟩
    · rw [List.map_append]
      refine ef_cat (ev_is (EvF.k (ef_mapT nodeD g (fun n => numD n.x) (by omega) (ev_nodes T (ev_var rfl (r0.mono e1))) fun n hn v H2 e2 rv => ev_ixT (ev_var (kd := .d (nodeD n)) rfl rv) ev_int (atI_nat (j := 0) rfl))) (by rw [List.map_map]; rfl)) (EvF.k (ef_lst (ds := [numD y]) (ed_cons (ev_var rfl (r1.mono e1)) ed_nil))) ?_
      simp only [List.length_map, List.length_cons, List.length_nil]
      omega
    · exact ⟨none, none, [], rfl, e1.trans e2, Tx.refl _, ha, e2 _ _ hl1, .nil⟩
    · rintro j σ' H' ⟨w3, w4, acc, _, _, h1, h2, _⟩
      exact ⟨h1, h2⟩
    · have hne : a ≠ l := by
        rintro rfl
        rw [hl1] at ha0
        cases ha0
      generalize (g.map (fun n : Nd => n.x) ++ [y]) = xs at hxs hfl hlen hP ⊢
      rintro j q v σ' H' hj ⟨w3, w4, acc, rfl, x1, x2, x3, x4, x5⟩ rv
      have rv : Kp c H' v (.d (numD q)) := rv
      have tk : (xs.take (j + 1)).flatMap placesOf = (xs.take j).flatMap placesOf ++ placesOf q := by
        rw [List.take_add_one, hj, List.flatMap_append]
        simp
      have hl2 : (((xs.take j).flatMap placesOf).map placeD).length ≤ 1203 := by
        have := flat_len (xs.take j)
        rw [List.length_map]
        rw [List.length_take] at this
        omega
      refine n_ext (es := [placeD (q, .at_), placeD (q, .after)]) x4 x5 (Nat.lt_of_le_of_lt (Nat.add_le_add_right hl2 _) (show 1203 + 2 < 100000 by decide)) rfl (ef_lst (ed_cons (ev_tup (ed_cons (ev_var rfl rv) (ed_cons ev_str ed_nil))) (ed_cons (ev_tup (ed_cons (ev_var rfl rv) (ed_cons ev_str ed_nil))) ed_nil))) fun ws H3 e3 f3 => ?_
      have l3 := e3 _ _ x4
      have X3 : Ex H (upd H3 l (.lst (acc ++ ws))) := Ex.mut (x1.trans e3) hl0
      have t3 : Tx H' (upd H3 l (.lst (acc ++ ws))) := (Tx.of e3).trans (Tx.upd l3)
      have A3 : upd H3 l (.lst (acc ++ ws)) a = some (.lst vs) := by rw [upd_ne hne]; exact e3 _ _ x3
      have L3 : upd H3 l (.lst (acc ++ ws)) l = some (.lst (acc ++ ws)) := upd_same
      have rv : Kp c (upd H3 l (.lst (acc ++ ws))) v (.d (numD q)) := Fp.mono t3 rv
      generalize upd H3 l (.lst (acc ++ ws)) = H4 at X3 t3 A3 L3 rv f3
      refine s_ifE (b := decide (0 < q)) (et_val (ev_call (ea_cons (ev_glob (kd := .d (numD 0)) (T.zero H4)) (ea_cons (ev_var rfl rv) ea_nil)) ⟨0, q, rfl, ht_zero.mono (by decide), hxs q (List.mem_of_getElem? hj), rfl⟩)) (fun hb H5 e5 => ?_) fun hb H5 e5 => ?_
      · have hb : 0 < q := of_decide_eq_true hb
        refine s_app (d := placeD (q, .before)) (e5 _ _ L3) (f3.mono (Tx.of e5)) (by rw [List.length_append]; exact Nat.lt_of_le_of_lt (Nat.add_le_add_right hl2 _) (show 1203 + 2 < 100000 by decide)) rfl (ev_tup (ed_cons (ev_var rfl (rv.mono e5)) (ed_cons ev_str ed_nil))) fun vb H6 e6 f6 => ?_
        have e56 := e5.trans e6
        have l6 := e56 _ _ L3
        refine ⟨_, _, (acc ++ ws) ++ [vb], rfl, Ex.mut (X3.trans e56) hl0, (x2.trans t3).trans ((Tx.of e56).trans (Tx.upd l6)), ?_, upd_same, ?_⟩
        · rw [upd_ne hne]
          exact e56 _ _ A3
        · rw [tk, List.map_append, show placesOf q = [(q, .at_), (q, .after)] ++ [(q, .before)] from by unfold placesOf; rw [if_pos hb]]
          rw [List.map_append, ← List.append_assoc]
          exact f6
      · have hb : ¬ 0 < q := of_decide_eq_false hb
        refine ⟨_, _, acc ++ ws, rfl, X3.trans e5, (x2.trans t3).trans (Tx.of e5), e5 _ _ A3, e5 _ _ L3, ?_⟩
        rw [tk, List.map_append, show placesOf q = [(q, .at_), (q, .after)] from by unfold placesOf; rw [if_neg hb]; rfl]
        exact f3.mono (Tx.of e5)
    · rintro σ' H' ⟨w3, w4, acc, rfl, x1, x2, x3, x4, x5⟩
      rw [List.take_length, ← hP] at x5
      exact s_ret (ev_var (kd := .l ((places g y).map placeD)) rfl ⟨l, acc, rfl, x4, x5⟩) fun v H3 e3 r => k v H3 (x1.trans e3) r
theorem eqv_place (x y : Rat) (a b : Sd) : KD.d (.bool (PyData.eqv (.tuple [numD x, sideD a]) (.tuple [numD y, sideD b]))) = .d (.bool (decide (x = y ∧ a = b))) := by
  show KD.d (.bool (PyData.eqvAll [numD x, sideD a] [numD y, sideD b])) = _
  rw [eqv_tup2]
  simp only [PyData.eqvAll, eqv_side, Bool.and_true, Bool.decide_and]
theorem side_lay (a : Sd) : (sideD a).canLay0 = true ∧ (sideD a).depth ≤ 1 := by
  cases a <;> exact ⟨by decide +kernel, by decide +kernel⟩
theorem shaped_place (x : Rat) (a : Sd) : SeqAt.shaped (.tuple [numD x, sideD a]) = true := (shaped_of fun d hd => by
  rcases List.mem_cons.mp hd with h | h
  · rw [h]
    exact ⟨rfl, num_depth x⟩
  · rw [List.mem_singleton.mp h]
    exact ⟨(side_lay a).1, Nat.le_succ_of_le (side_lay a).2⟩).2
def R_leads (ks : List KD) (kd : KD) : Prop := ∃ (f : List Nd) (low high : Option Rat) (y : Rat) (p : Rat × Sd) (q : Rat), ks = [.c f, .d (optD low), .d (optD high), .d (numD y), .d (placeD p), .d (numD q)] ∧ Sm y ∧ LeadOk f low high y p ∧ kd = .d (.bool (leadsC f low high y p q))
theorem c_leads (T : Txt c mg aZ aT) (S : Src c.K mg "leads" t_leads ["curve", "low", "high", "income", "place", "number"]) (c_number_at : Def P w c.K mg base "number_at" ["curve", "place"] 7 (spF c R_number_at)) (c_is_less : Def P w c.K mg base "is_less" ["first", "second"] 1 (spF c R_is_less)) (c_minus : Def P w c.K mg base "minus" ["first", "second"] 4 (spF c R_minus)) (c_plus : Def P w c.K mg base "plus" ["first", "second"] 3 (spF c R_plus)) (c_product : Def P w c.K mg base "product" ["first", "second"] 3 (spF c R_product)) :
    Def P w c.K mg base "leads" ["curve", "low", "high", "income", "place", "number"] 8 (spF c R_leads) := S.ok fun f fd F => by
  refine F.ok sc_leads (fun vs H Q E h => ?_) (fun cdv A outer s H vs Q E hr h => ?_)
  · obtain ⟨_, _, hk, ⟨_, _, _, _, _, _, rfl, _⟩, _⟩ := h
    exact hk.length
  · obtain ⟨_, _, hk, ⟨g, low, high, y, ⟨x, sd⟩, q, rfl, hy, ho, rfl⟩, k⟩ := h
    obtain ⟨v0, v1, v2, v3, v4, v5, rfl, r0, r1, r2, r3, r4, r5⟩ := KpAll.six hk
    refine ⟨_, (pss_cons (ps_asg (pv 4) (pg_tup rfl (pgs_cons (pg_name (i := 6) sc_leads.nd rfl (Or.inl rfl)) (pgs_cons (pg_name (i := 7) sc_leads.nd rfl (Or.inl rfl)) pgs_nil))))
      (pss_cons (ps_set (i := 8) sc_leads.nd rfl (Or.inl rfl) (c_number_at.pe (hr.mono (by decide)) (by rfl) (pa_cons (pv 0) (pa_cons (pv 4) pa_nil))))
      (pss_cons (ps_if (pt_cmpR (oEqD c.K rfl hr.units) (pv 4) (pe_tup (pa_cons (pv 3) (pa_cons pe_str pa_nil))) (nomark _)) (pss_one (ps_ret (pe_cmpR (oEqD c.K rfl hr.units) (pv 8) (pv 5) (nomark _)))) pss_nil)
      (pss_cons (ps_if (PW.pt (pw_or (pt_val (c_is_less.pe (hr.mono (by decide)) (by rfl) (pa_cons (pv 6) (pa_cons (pv 3) pa_nil)))) (pw_or1 (PW.pt (pw_and (pt_cmpR (oEqD c.K rfl hr.units) (pv 6) (pv 3) (nomark _)) (pw_and1 (pt_cmpR (oEqD c.K rfl hr.units) (pv 7) pe_str (nomark _)))))))) (pss_one (ps_ret (pe_and (pe_cmpR op_notN (pv 1) pe_non (nomark _)) (pe_one (pe_cmpR (oEqD c.K rfl hr.units) (c_plus.pe (hr.mono (by decide)) (by rfl) (pa_cons (pv 8) (pa_cons (c_product.pe (hr.mono (by decide)) (by rfl) (pa_cons (pv 1) (pa_cons (c_minus.pe (hr.mono (by decide)) (by rfl) (pa_cons (pv 3) (pa_cons (pv 6) pa_nil))) pa_nil))) pa_nil))) (pv 5) (nomark _)))))) pss_nil)
      (pss_one (ps_ret (pe_and (pe_cmpR op_notN (pv 2) pe_non (nomark _)) (pe_one (pe_cmpR (oEqD c.K rfl hr.units) (c_minus.pe (hr.mono (by decide)) (by rfl) (pa_cons (pv 8) (pa_cons (c_product.pe (hr.mono (by decide)) (by rfl) (pa_cons (pv 2) (pa_cons (c_minus.pe (hr.mono (by decide)) (by rfl) (pa_cons (pv 6) (pa_cons (pv 3) pa_nil))) pa_nil))) pa_nil))) (pv 5) (nomark _)))))))))), ?_⟩
    refine n_tup2 (ev_var rfl r4) fun v6 v7 H1 e1 r6 r7 => ?_
    have r6 : Kp c H1 v6 (.d (numD x)) := r6
    have r7 : Kp c H1 v7 (.d (sideD sd)) := r7
    refine n_asg (kd := .d (numD (numAt g x sd))) (ev_call (ea_cons (ev_var rfl (r0.mono e1)) (ea_cons (ev_var rfl (r4.mono e1)) ea_nil)) ⟨g, x, sd, rfl, ho.num, rfl⟩) fun v8 H2 e2 r8 => ?_
    have r6 := r6.mono e2
    have r7 := r7.mono e2
    have e12 := e1.trans e2
    have s1 := r1.mono e12
    have s2 := r2.mono e12
    have s3 := r3.mono e12
    have s4 := r4.mono e12
    have s5 := r5.mono e12
    refine n_ifE (b := decide (x = y ∧ sd = .at_)) (et_test (ev_is (ev_eqD (ev_var rfl s4) (ev_tup (ds := [numD y, sideD .at_]) (ed_cons (ev_var rfl s3) (ed_cons ev_str ed_nil))) (.d _) (.d _) (shaped_place _ _) (shaped_place _ .at_)) (eqv_place x y sd .at_))) (fun hb H3 e3 => ?_) fun hb H3 e3 => ?_
    · have hb := of_decide_eq_true hb
      refine s_ret (kd := .d (.bool (leadsC g low high y (x, sd) q))) (ev_is (ev_eqD (ev_var rfl (r8.mono e3)) (ev_var rfl (s5.mono e3)) (.d _) (.d _) rfl rfl) ?_) fun v H4 e4 r => k v H4 ((e12.trans e3).trans e4) r
      rw [eqv_num]
      unfold leadsC
      rw [if_pos hb]
    · have hb := of_decide_eq_false hb
      have r6 := r6.mono e3
      have r7 := r7.mono e3
      have r8 := r8.mono e3
      have s1 := s1.mono e3
      have s2 := s2.mono e3
      have s3 := s3.mono e3
      have s5 := s5.mono e3
      refine n_ifE (b := decide (x < y ∨ (x = y ∧ sd = .before))) (et_is (et_or (et_val (ev_call (ea_cons (ev_var rfl r6) (ea_cons (ev_var rfl s3) ea_nil)) ⟨x, y, rfl, ho.sx, hy, rfl⟩)) fun _ => et_and (et_test (ev_is (ev_eqD (ev_var rfl r6) (ev_var rfl s3) (.d _) (.d _) rfl rfl) (by rw [eqv_num]))) fun _ => et_test (ev_is (ev_eqD (ev_var rfl r7) ev_str (.d _) (.d _) (shaped_side _) (shaped_side .before)) (side_is sd .before rfl))) (by rw [Bool.decide_or, Bool.decide_and])) (fun hc H4 e4 => ?_) fun hc H4 e4 => ?_
      · have hc := of_decide_eq_true hc
        have hL : leadsC g low high y (x, sd) q = optB low (fun l => decide (numAt g x sd + l * (y - x) = q)) := by
          unfold leadsC optB
          rw [if_neg hb, if_pos hc]
          all_goals (clear k ho s1 r1; cases low <;> rfl)
        rw [hL] at k
        cases low with
        | none => exact s_ret (ev_andV (a := false) (b := false) (ev_notN (ev_var rfl (s1.mono e4))) fun z => nomatch z) fun v H5 e5 r => k v H5 (((e12.trans e3).trans e4).trans e5) r
        | some l =>
          have hl := ho.lo l rfl
          have r1 : Kp c H4 v1 (.d (numD l)) := s1.mono e4
          refine s_ret (ev_is (ev_andV (a := true) (ev_notN (ev_var rfl r1)) fun _ => ev_is (ev_eqD (ev_call (ea_cons (ev_var rfl (r8.mono e4)) (ea_cons (ev_call (ea_cons (ev_var rfl r1) (ea_cons (ev_call (ea_cons (ev_var rfl (s3.mono e4)) (ea_cons (ev_var rfl (r6.mono e4)) ea_nil)) ⟨y, x, rfl, hy, ho.sx, rfl⟩) ea_nil)) ⟨l, _, rfl, hl.1, ho.d1, rfl⟩) ea_nil)) ⟨_, _, rfl, ho.sh, hl.2, rfl⟩) (ev_var rfl (s5.mono e4)) (.d _) (.d _) rfl rfl) (by rw [eqv_num])) ?_) fun v H5 e5 r => k v H5 (((e12.trans e3).trans e4).trans e5) r
          rfl
      · have hc := of_decide_eq_false hc
        have hL : leadsC g low high y (x, sd) q = optB high (fun h => decide (numAt g x sd - h * (x - y) = q)) := by
          unfold leadsC optB
          rw [if_neg hb, if_neg hc]
          all_goals (clear k ho s2 r2; cases high <;> rfl)
        rw [hL] at k
        cases high with
        | none => exact s_ret (ev_andV (a := false) (b := false) (ev_notN (ev_var rfl (s2.mono e4))) fun z => nomatch z) fun v H5 e5 r => k v H5 (((e12.trans e3).trans e4).trans e5) r
        | some h =>
          have hl := ho.hi h rfl
          have r2 : Kp c H4 v2 (.d (numD h)) := s2.mono e4
          refine s_ret (ev_is (ev_andV (a := true) (ev_notN (ev_var rfl r2)) fun _ => ev_is (ev_eqD (ev_call (ea_cons (ev_var rfl (r8.mono e4)) (ea_cons (ev_call (ea_cons (ev_var rfl r2) (ea_cons (ev_call (ea_cons (ev_var rfl (r6.mono e4)) (ea_cons (ev_var rfl (s3.mono e4)) ea_nil)) ⟨x, y, rfl, ho.sx, hy, rfl⟩) ea_nil)) ⟨h, _, rfl, hl.1, ho.d2, rfl⟩) ea_nil)) ⟨_, _, rfl, ho.sh, hl.2, rfl⟩) (ev_var rfl (s5.mono e4)) (.d _) (.d _) rfl rfl) (by rw [eqv_num])) ?_) fun v H5 e5 r => k v H5 (((e12.trans e3).trans e4).trans e5) r
          rfl
def optPD : Option (Rat × Sd) → PyData
  | none => .none
  | some p => placeD p
def R_reached_from (ks : List KD) (kd : KD) : Prop := ∃ (f : List Nd) (low high : Option Rat) (y : Rat), ks = [.c f, .d (optD low), .d (optD high), .d (numD y)] ∧ RcOk f low high y ∧ kd = .d (optPD (reachC f low high y))
theorem c_reached_from (T : Txt c mg aZ aT) (S : Src c.K mg "reached_from" t_reached_from ["curve", "low", "high", "income"]) (c_least_between : Def P w c.K mg base "least_between" ["curve", "low", "high"] 12 (spF c R_least_between)) (c_check_income : Def P w c.K mg base "check_income" ["income"] 3 (spF c R_check_income)) (c_call : DefM P w c.K mg base c.C "__call__" ["self", "income"] 7 (spF c R_call)) (c_places_near : Def P w c.K mg base "places_near" ["curve", "income"] 2 (spF c R_places_near)) (c_leads : Def P w c.K mg base "leads" ["curve", "low", "high", "income", "place", "number"] 8 (spF c R_leads)) :
    Def P w c.K mg base "reached_from" ["curve", "low", "high", "income"] 13 (spF c R_reached_from) := S.ok fun f fd F => by
  refine F.ok sc_reached_from (fun vs H Q E h => ?_) (fun cdv A outer s H vs Q E hr h => ?_)
  · obtain ⟨_, _, hk, ⟨_, _, _, _, rfl, _⟩, _⟩ := h
    exact hk.length
  · obtain ⟨_, _, hk, ⟨g, low, high, y, rfl, ho, rfl⟩, k⟩ := h
    obtain ⟨v0, v1, v2, v3, rfl, r0, r1, r2, r3⟩ := KpAll.four hk
    refine ⟨_, (pss_cons (ps_set (i := 4) sc_reached_from.nd rfl (Or.inl rfl) (c_least_between.pe (hr.mono (by decide)) (by rfl) (pa_cons (pv 0) (pa_cons (pv 1) (pa_cons (pv 2) pa_nil)))))
      (pss_cons (ps_expr (c_check_income.pe (hr.mono (by decide)) (by rfl) (pa_cons (pv 3) pa_nil)))
      (pss_cons (ps_if (pt_cmpR op_isN (pv 4) pe_non (nomark _)) (pss_one (ps_ret pe_non)) pss_nil)
      (pss_cons (ps_set (i := 5) sc_reached_from.nd rfl (Or.inr rfl) (c_call.call T rfl (hr.mono (by decide)) (pv 4) (pa_cons (pv 3) pa_nil)))
      (pss_one (ps_ret (pe_ix (ixL c.K rfl) (pe_lc (own := [("place", 6)]) (g := gName 6) (by rfl) sc_reached_from.nd (piL c.K rfl (c_places_near.pe (hr.mono (by decide)) (by rfl) (pa_cons (pv 0) (pa_cons (pv 3) pa_nil)))) (blkOk_by (own := [("place", 6)]) (N := ["curve", "low", "high", "income", "found", "number", "place"]) (sc := defScope t_reached_from) (by decide +kernel)) (fun _ _ _ _ _ => pg_name (i := 6) sc_reached_from.nd rfl (Or.inl rfl)) (fun _ _ _ _ _ => (pts_one (pt_val (c_leads.pe (hr.mono (by decide)) (by rfl) (pa_cons (pv 0) (pa_cons (pv 1) (pa_cons (pv 2) (pa_cons (pv 3) (pa_cons (pv 6) (pa_cons (pv 5) pa_nil)))))))))) (fun _ _ _ _ _ => (pv 6))) pe_int (fun _ _ => rfl)))))))), ?_⟩
    refine n_asg (ev_call (ea_cons (ev_var rfl r0) (ea_cons (ev_var rfl r1) (ea_cons (ev_var rfl r2) ea_nil))) ⟨g, low, high, rfl, ho.lb, rfl⟩) fun v4 H1 e1 r4 => ?_
    refine n_drop (ev_call (ea_cons (ev_var rfl (r3.mono e1)) ea_nil) ⟨y, rfl, ho.hy, ho.y0, rfl⟩) fun H2 e2 => ?_
    have r4 := r4.mono e2
    have e12 := e1.trans e2
    cases hL : lbC g low high with
    | none =>
      rw [hL] at r4
      have r4 : Kp c H2 v4 (.d .none) := r4
      refine n_ifE (b := true) (et_test (ev_isN (ev_var rfl r4))) (fun _ H3 e3 => ?_) fun z => nomatch z
      refine s_ret (kd := .d (optPD (reachC g low high y))) (ev_is (ev_non (c := c)) ?_) fun v H4 e4 r => k v H4 ((e12.trans e3).trans e4) r
      unfold reachC
      rw [hL]
      rfl
    | some f' =>
      rw [hL] at r4
      have r4 : Kp c H2 v4 (.c f') := r4
      obtain ⟨o1, o2, p, o3⟩ := ho.g f' hL
      refine n_ifF (et_test (ev_isN (ev_var rfl r4))) fun H3 e3 => ?_
      have e13 := e12.trans e3
      refine n_asg (kd := .d (numD (vl f' y))) (ev_callO (R := R_call) (ev_var rfl (r4.mono e3)) (ev_var rfl (r3.mono e13)) ⟨f', y, rfl, by have := o1.len; omega, o1.xs, o1.ex, o1.ln, ho.y0, rfl⟩) fun v5 H4 e4 r5 => ?_
      have e14 := e13.trans e4
      have s0 := r0.mono e14
      have s1 := r1.mono e14
      have s2 := r2.mono e14
      have s3 := r3.mono e14
      have hfl := flat_len (g.map (fun n : Nd => n.x) ++ [y])
      have hlen := ho.len
      have o3' := o3
      unfold reachC at o3'
      rw [hL] at o3'
      have o3' : (places g y).find? (fun p => leadsC g low high y p (vl f' y)) = some p := o3'
      refine s_ret (ev_ixL (ds := ((places g y).filter fun p => leadsC g low high y p (vl f' y)).map placeD) (d := placeD p) (EvF.k (ef_lcL placeD (places g y) (fun p => leadsC g low high y p (vl f' y)) placeD ?_ (ev_call (ea_cons (ev_var rfl s0) (ea_cons (ev_var rfl s3) ea_nil)) ⟨g, y, rfl, by omega, ho.xs, ho.hy, rfl⟩) (fun p hp v H5 e5 rv => et_val (ev_call (ea_cons (ev_var rfl (s0.mono e5)) (ea_cons (ev_var rfl (s1.mono e5)) (ea_cons (ev_var rfl (s2.mono e5)) (ea_cons (ev_var rfl (s3.mono e5)) (ea_cons (ev_var (kd := .d (placeD p)) rfl rv) (ea_cons (ev_var rfl (r5.mono e5)) ea_nil)))))) ⟨g, low, high, y, p, _, rfl, ho.hy, o2 p hp, rfl⟩)) fun p hp _ v H5 e5 rv => ev_var (kd := .d (placeD p)) rfl rv)) ev_int ?_) fun v H5 e5 r => k v H5 (e14.trans e5) (by rw [o3]; exact r)
      · unfold places
        refine Nat.le_trans hfl ?_
        rw [List.length_append, List.length_map, List.length_singleton]
        omega
      · refine atI_nat (j := 0) ?_
        rw [List.getElem?_map, ← List.head?_eq_getElem?, List.head?_filter, o3']
        rfl
end
end K66
set_option Elab.async false
set_option linter.all false
set_option autoImplicit false
set_option maxRecDepth 100000
set_option maxHeartbeats 4000000
/-! KL1: the law's own numbers. -/
namespace K66
open PySem PySem.Spec PyProof.Rows L2
open Evl (Ex EvT)
local macro_rules | `(tactic| walk_at "k66ev") => `(tactic| (repeat' (first
  | exact ev_int | exact ev_str | exact ev_bl | exact ev_non
  | exact ev_var rfl (by assumption)
  | apply ev_ixT | apply ev_ixL
  | apply ev_I (g := fun i j => i * j) | apply ev_I0 (g := fun i j => i + j) | apply ev_I0 (g := fun i j => i - j)
  | apply ev_B0 (g := fun i j => decide (i < j)) | apply ev_B0 (g := fun i j => decide (j < i))
  | apply ev_neg | refine ev_tup ?_ | exact ed_nil | apply ed_cons | exact ea_nil | apply ea_cons | apply ev_call
  | exact atI_nat (j := 0) rfl | exact atI_nat (j := 1) rfl | exact atI_nat (j := 2) rfl | exact atI_nat (j := 3) rfl)))
/-- a number that the law itself reckons with -/
abbrev Lw (q : Rat) : Prop := Ht 1000 q
theorem Lw.n {q : Rat} (h : Lw q) : q.num.natAbs < 2 ^ 1000 := h.num
theorem Lw.d {q : Rat} (h : Lw q) : ((q.den : Int)).natAbs < 2 ^ 1000 := h.den
theorem cm1 {i j : Int} (ha : i.natAbs < 2 ^ 1000) (hb : j.natAbs < 2 ^ 1000) : CMulW i j := cmulW ha hb (by decide) (by decide) (by decide)
theorem ml1 {i j : Int} (ha : i.natAbs < 2 ^ 1000) (hb : j.natAbs < 2 ^ 1000) : (i * j).natAbs < 2 ^ 2000 := wide_lt ha hb
theorem big_mono {i : Int} {n m : Nat} (h : i.natAbs < 2 ^ n) (hm : n ≤ m) : i.natAbs < 2 ^ m := Nat.lt_of_lt_of_le h (Nat.pow_le_pow_right (by decide) hm)
theorem add_big {i j : Int} (ha : i.natAbs < 2 ^ 2000) (hb : j.natAbs < 2 ^ 2000) : (i + j).natAbs < 2 ^ 8000 := by
  have h : (i + j).natAbs < 2 ^ 2001 := by
    have := Int.natAbs_add_le i j
    rw [Nat.pow_succ]
    omega
  exact big_mono h (by decide)
theorem sub_divInt (p q : Rat) : Rat.divInt (p.num * q.den - q.num * p.den) (p.den * q.den) = p - q := by
  have h := add_divInt p (-q)
  rw [Rat.neg_num, Rat.neg_den, Int.neg_mul, ← Int.sub_eq_add_neg] at h
  rw [h, Rat.sub_eq_add_neg]
section
variable {P : Program} {w : World} {c : Cv} {mg : Str → Option Value} {base : Heap} {aZ aT : Addr}
def R_l_divisor (ks : List KD) (kd : KD) : Prop := ∃ a b : Int, ks = [.d (.int a), .d (.int b)] ∧ a.natAbs < 2 ^ 8000 ∧ b.natAbs < 2 ^ 8000 ∧ kd = .d (.int (Int.gcd a b : Int))
theorem c_l_divisor (T : Txt c mg aZ aT) (S : Src c.K mg "_law_divisor" t_l_divisor ["_law_first", "_law_second"])  :
    Def P w c.K mg base "_law_divisor" ["_law_first", "_law_second"] 1 (spF c R_l_divisor) := S.ok fun f fd F => by
  refine F.ok sc_l_divisor (fun vs H Q E h => ?_) (fun cdv A outer s H vs Q E hr h => ?_)
  · obtain ⟨_, _, hk, ⟨a, b, rfl, _⟩, _⟩ := h
    exact hk.length
  · obtain ⟨_, _, hk, ⟨a, b, rfl, ha, hb, rfl⟩, k⟩ := h
    obtain ⟨v0, v1, rfl, r0, r1⟩ := KpAll.two hk
    refine ⟨_, (pss_cons (ps_par (i := 0) (j := 1) (by rfl) sc_l_divisor.nd rfl rfl (by decide) rfl rfl (pa_cons (pe_callB call_abs (by rfl) T.abs (by decide +kernel) (pa_cons (pv 0) pa_nil)) (pa_cons (pe_callB call_abs (by rfl) T.abs (by decide +kernel) (pa_cons (pv 1) pa_nil)) pa_nil)) (by rfl))
      (pss_cons (ps_while PassesOwn.never (pt_cmpR op_gt (pv 1) pe_int (nomark _)) (pss_one (ps_par (i := 0) (j := 1) (by rfl) sc_l_divisor.nd rfl rfl (by decide) rfl rfl (pa_cons (pv 1) (pa_cons (pe_op op_sub (pv 0) (pe_op op_mulW (pe_op op_fdivX (pv 0) (pv 1)) (pv 1))) pa_nil)) (by rfl))))
      (pss_one (ps_ret (pv 0))))), ?_⟩
    refine n_par (ea_cons (ev_abs (ev_var rfl r0)) (ea_cons (ev_abs (ev_var rfl r1)) ea_nil)) fun u0 u1 H1 e1 q0 q1 => ?_
    refine s_whileN (fun m σ' H' => ∃ x y : Nat, σ' = [some (.int (x : Int)), some (.int (y : Int))] ∧ Ex H H' ∧ Nat.gcd x y = Int.gcd a b ∧ x < 2 ^ 8000 ∧ y < 2 ^ 8000 ∧ y = m) b.natAbs ⟨a.natAbs, b.natAbs, ?_, e1, rfl, ha, hb, rfl⟩ ?_
    · rw [Fp.intE q0, Fp.intE q1]
      rfl
    · rintro m σ' H' ⟨x, y, rfl, ex, hg, hx, hy8, rfl⟩
      refine ⟨decide ((0 : Int) < (y : Int)), et_test (c := c) (ev_B0 (g := fun i j => decide (j < i)) (ev_var rfl (Fp.int _)) ev_int), fun hb H2 e2 => ?_, fun hb H2 e2 => ?_⟩
      · have hy : 0 < y := by have := of_decide_eq_true hb; omega
        refine ⟨fun σ2 H3 => ∃ x' y' : Nat, σ2 = [some (.int (x' : Int)), some (.int (y' : Int))] ∧ Ex H H3 ∧ Nat.gcd x' y' = Int.gcd a b ∧ x' < 2 ^ 8000 ∧ y' < 2 ^ 8000 ∧ y' < y, fun σ2 H3 ⟨x', y', h1, h2, h3, h4, h5, h6⟩ => ⟨y', h6, x', y', h1, h2, h3, h4, h5, rfl⟩, ?_⟩
        refine s_par (c := c) (k1 := .d (.int (y : Int))) (k2 := .d (.int ((x % y : Nat) : Int))) (ea_cons (ev_var rfl (Fp.int _)) (ea_cons (ev_is (ev_I0 (g := fun i j => i - j) (ev_var rfl (Fp.int _)) (ev_I (g := fun i j => i * j) (ev_I (g := Int.fdiv) (ev_var rfl (Fp.int _)) (ev_var rfl (Fp.int _)) ?_) (ev_var rfl (Fp.int _)) ?_)) ?_) ea_nil)) fun u0 u1 H3 e3 q0 q1 => ?_
        · have h2 := log2_lt (j := (y : Int)) (n := 8000) (by decide) hy8
          exact ⟨by omega, by omega⟩
        · rw [show Int.fdiv (x : Int) (y : Int) = ((x / y : Nat) : Int) from by rw [Int.fdiv_eq_ediv_of_nonneg _ (by omega)]; rfl]
          refine cmulW (a := 8000) (b := 8000) ?_ hy8 (by decide) (by decide) (by decide)
          exact Nat.lt_of_le_of_lt (Nat.div_le_self x y) hx
        · rw [show Int.fdiv (x : Int) (y : Int) = ((x / y : Nat) : Int) from by rw [Int.fdiv_eq_ediv_of_nonneg _ (by omega)]; rfl]
          have q := Nat.div_add_mod x y
          have q2 : ((x % y : Nat) : Int) = (x : Int) - ((x / y : Nat) : Int) * (y : Int) := by
            have : ((y * (x / y) + x % y : Nat) : Int) = (x : Int) := by rw [q]
            rw [Int.natCast_add, Int.natCast_mul] at this
            rw [Int.mul_comm]
            omega
          rw [q2]
        · rw [Fp.intE q0, Fp.intE q1]
          refine ⟨y, x % y, rfl, (ex.trans e2).trans e3, ?_, hy8, Nat.lt_trans (Nat.mod_lt _ hy) hy8, Nat.mod_lt _ hy⟩
          rw [← hg, Nat.gcd_comm y, ← Nat.gcd_rec, Nat.gcd_comm]
      · have hy : y = 0 := by have := of_decide_eq_false hb; omega
        subst hy
        refine s_ret (c := c) (kd := .d (.int (x : Int))) (ev_var rfl (Fp.int _)) fun v H3 e3 r => k v H3 ((ex.trans e2).trans e3) ?_
        rw [Nat.gcd_zero_right] at hg
        rw [← hg]
        exact r
def R_l_number (ks : List KD) (kd : KD) : Prop := ∃ t b : Int, ks = [.d (.int t), .d (.int b)] ∧ b ≠ 0 ∧ t.natAbs < 2 ^ 8000 ∧ b.natAbs < 2 ^ 8000 ∧ kd = .d (numD (Rat.divInt t b))
theorem c_l_number (T : Txt c mg aZ aT) (S : Src c.K mg "_law_number" t_l_number ["_law_top", "_law_bottom"]) (c_l_divisor : Def P w c.K mg base "_law_divisor" ["_law_first", "_law_second"] 1 (spF c R_l_divisor)) :
    Def P w c.K mg base "_law_number" ["_law_top", "_law_bottom"] 2 (spF c R_l_number) := S.ok fun f fd F => by
  refine F.ok sc_l_number (fun vs H Q E h => ?_) (fun cdv A outer s H vs Q E hr h => ?_)
  · obtain ⟨_, _, hk, ⟨a, b, rfl, _⟩, _⟩ := h
    exact hk.length
  · obtain ⟨_, _, hk, ⟨t, b, rfl, hb, ht, hz, rfl⟩, k⟩ := h
    obtain ⟨v0, v1, rfl, r0, r1⟩ := KpAll.two hk
    refine ⟨_, (pss_cons (ps_set (i := 2) sc_l_number.nd rfl (Or.inl rfl) (c_l_divisor.pe (hr.mono (by decide)) (by rfl) (pa_cons (pv 0) (pa_cons (pv 1) pa_nil))))
      (pss_cons (ps_if (pt_cmpR op_lt (pv 1) pe_int (nomark _)) (pss_one (ps_set (i := 2) sc_l_number.nd rfl (Or.inl rfl) (pe_op op_sub pe_int (pv 2)))) pss_nil)
      (pss_one (ps_ret (pe_tup (pa_cons (pe_op op_fdivX (pv 0) (pv 2)) (pa_cons (pe_op op_fdivX (pv 1) (pv 2)) pa_nil))))))), ?_⟩
    refine n_asg (ev_call (ea_cons (ev_var rfl r0) (ea_cons (ev_var rfl r1) ea_nil)) ⟨t, b, rfl, ht, hz, rfl⟩) fun v2 H1 e1 r2 => ?_
    have r0 := r0.mono e1
    have r1 := r1.mono e1
    refine n_mid (fun σ' H' => ∃ u, σ' = [some v0, some v1, some u] ∧ Ex H1 H' ∧ Kp c H' u (.d (.int (dv t b)))) ?_ fun fin => ?_
    · rintro σ' H' ⟨u, rfl, e2, ru⟩
      have r0 := r0.mono e2
      have r1 := r1.mono e2
      have hd : CDivX t (dv t b) ∧ CDivX b (dv t b) := by
        have h1 := dv_ne (t := t) hb
        have h2 := log2_lt (n := 8000) (by decide) (Nat.lt_of_le_of_lt (dv_le (t := t) hb) hz)
        exact ⟨⟨h1, by omega⟩, ⟨h1, by omega⟩⟩
      refine s_ret (kd := .d (numD (Rat.divInt t b))) (ev_tup (ed_cons (ev_is (ev_I (g := Int.fdiv) (ev_var rfl r0) (ev_var rfl ru) hd.1) ?_) (ed_cons (ev_is (ev_I (g := Int.fdiv) (ev_var rfl r1) (ev_var rfl ru) hd.2) ?_) ed_nil))) fun v H2 e3 r => k v H2 ((e1.trans e2).trans e3) r
      · rw [dv_num hb]
      · rw [dv_den hb]
    · refine n_ifE (b := decide (b < 0)) (et_test (ev_B0 (g := fun i j => decide (i < j)) (ev_var rfl r1) ev_int)) (fun hc H2 e2 => ?_) fun hc H2 e2 => ?_
      · have hc := of_decide_eq_true hc
        refine s_asg (ev_is (ev_I0 (g := fun i j => i - j) ev_int (ev_var rfl (r2.mono e2))) ?_) fun u H3 e3 ru => fin _ _ ⟨u, rfl, e2.trans e3, ru⟩
        unfold dv
        rw [if_neg (by omega)]
        have : (0 : Int) - (Int.gcd t b : Int) = -(Int.gcd t b : Int) := by omega
        rw [this]
      · have hc := of_decide_eq_false hc
        refine fin _ _ ⟨v2, rfl, e2, ?_⟩
        unfold dv
        rw [if_pos (by omega)]
        exact r2.mono e2
def R_l_plus (ks : List KD) (kd : KD) : Prop := ∃ p q : Rat, ks = [.d (numD p), .d (numD q)] ∧ Lw p ∧ Lw q ∧ kd = .d (numD (p + q))
theorem c_l_plus (T : Txt c mg aZ aT) (S : Src c.K mg "_law_plus" t_l_plus ["_law_first", "_law_second"]) (c_l_number : Def P w c.K mg base "_law_number" ["_law_top", "_law_bottom"] 2 (spF c R_l_number)) :
    Def P w c.K mg base "_law_plus" ["_law_first", "_law_second"] 3 (spF c R_l_plus) := S.ok fun f fd F => by
  refine F.ok sc_l_plus (fun vs H Q E h => ?_) (fun cdv A outer s H vs Q E hr h => ?_)
  · obtain ⟨_, _, hk, ⟨a, b, rfl, _⟩, _⟩ := h
    exact hk.length
  · obtain ⟨_, _, hk, ⟨p, q, rfl, hp, hq, rfl⟩, k⟩ := h
    obtain ⟨v0, v1, rfl, r0, r1⟩ := KpAll.two hk
    refine ⟨_, (pss_one (ps_ret (c_l_number.pe (hr.mono (by decide)) (by rfl) (pa_cons (pe_op op_add (pe_op op_mulW (pe_ix (ixT c.K rfl) (pv 0) pe_int (fun _ _ => rfl)) (pe_ix (ixT c.K rfl) (pv 1) pe_int (fun _ _ => rfl))) (pe_op op_mulW (pe_ix (ixT c.K rfl) (pv 1) pe_int (fun _ _ => rfl)) (pe_ix (ixT c.K rfl) (pv 0) pe_int (fun _ _ => rfl)))) (pa_cons (pe_op op_mulW (pe_ix (ixT c.K rfl) (pv 0) pe_int (fun _ _ => rfl)) (pe_ix (ixT c.K rfl) (pv 1) pe_int (fun _ _ => rfl))) pa_nil))))), ?_⟩
    refine s_ret (ev_call (R := R_l_number) ?_ ⟨_, _, rfl, Int.mul_ne_zero (den_ne p) (den_ne q), add_big (ml1 hp.n hq.d) (ml1 hq.n hp.d), big_mono (ml1 hp.d hq.d) (by decide), by rw [← add_divInt]⟩) k
    walk_at "k66ev"
    · exact cm1 hp.n hq.d
    · exact cm1 hq.n hp.d
    · exact cm1 hp.d hq.d
def R_l_minus (ks : List KD) (kd : KD) : Prop := ∃ p q : Rat, ks = [.d (numD p), .d (numD q)] ∧ Lw p ∧ Lw q ∧ kd = .d (numD (p - q))
theorem c_l_minus (T : Txt c mg aZ aT) (S : Src c.K mg "_law_minus" t_l_minus ["_law_first", "_law_second"]) (c_l_number : Def P w c.K mg base "_law_number" ["_law_top", "_law_bottom"] 2 (spF c R_l_number)) :
    Def P w c.K mg base "_law_minus" ["_law_first", "_law_second"] 3 (spF c R_l_minus) := S.ok fun f fd F => by
  refine F.ok sc_l_minus (fun vs H Q E h => ?_) (fun cdv A outer s H vs Q E hr h => ?_)
  · obtain ⟨_, _, hk, ⟨a, b, rfl, _⟩, _⟩ := h
    exact hk.length
  · obtain ⟨_, _, hk, ⟨p, q, rfl, hp, hq, rfl⟩, k⟩ := h
    obtain ⟨v0, v1, rfl, r0, r1⟩ := KpAll.two hk
    refine ⟨_, (pss_one (ps_ret (c_l_number.pe (hr.mono (by decide)) (by rfl) (pa_cons (pe_op op_sub (pe_op op_mulW (pe_ix (ixT c.K rfl) (pv 0) pe_int (fun _ _ => rfl)) (pe_ix (ixT c.K rfl) (pv 1) pe_int (fun _ _ => rfl))) (pe_op op_mulW (pe_ix (ixT c.K rfl) (pv 1) pe_int (fun _ _ => rfl)) (pe_ix (ixT c.K rfl) (pv 0) pe_int (fun _ _ => rfl)))) (pa_cons (pe_op op_mulW (pe_ix (ixT c.K rfl) (pv 0) pe_int (fun _ _ => rfl)) (pe_ix (ixT c.K rfl) (pv 1) pe_int (fun _ _ => rfl))) pa_nil))))), ?_⟩
    refine s_ret (ev_call (R := R_l_number) ?_ ⟨p.num * q.den - q.num * p.den, _, rfl, Int.mul_ne_zero (den_ne p) (den_ne q), ?_, big_mono (ml1 hp.d hq.d) (by decide), by rw [← sub_divInt]⟩) k
    · walk_at "k66ev"
      · exact cm1 hp.n hq.d
      · exact cm1 hq.n hp.d
      · exact cm1 hp.d hq.d
    · rw [Int.sub_eq_add_neg]
      exact add_big (ml1 hp.n hq.d) (by rw [Int.natAbs_neg]; exact ml1 hq.n hp.d)
def R_l_by (ks : List KD) (kd : KD) : Prop := ∃ p q : Rat, ks = [.d (numD p), .d (numD q)] ∧ Lw p ∧ Lw q ∧ kd = .d (numD (p * q))
theorem c_l_by (T : Txt c mg aZ aT) (S : Src c.K mg "_law_by" t_l_by ["_law_first", "_law_second"]) (c_l_number : Def P w c.K mg base "_law_number" ["_law_top", "_law_bottom"] 2 (spF c R_l_number)) :
    Def P w c.K mg base "_law_by" ["_law_first", "_law_second"] 3 (spF c R_l_by) := S.ok fun f fd F => by
  refine F.ok sc_l_by (fun vs H Q E h => ?_) (fun cdv A outer s H vs Q E hr h => ?_)
  · obtain ⟨_, _, hk, ⟨a, b, rfl, _⟩, _⟩ := h
    exact hk.length
  · obtain ⟨_, _, hk, ⟨p, q, rfl, hp, hq, rfl⟩, k⟩ := h
    obtain ⟨v0, v1, rfl, r0, r1⟩ := KpAll.two hk
    refine ⟨_, (pss_one (ps_ret (c_l_number.pe (hr.mono (by decide)) (by rfl) (pa_cons (pe_op op_mulW (pe_ix (ixT c.K rfl) (pv 0) pe_int (fun _ _ => rfl)) (pe_ix (ixT c.K rfl) (pv 1) pe_int (fun _ _ => rfl))) (pa_cons (pe_op op_mulW (pe_ix (ixT c.K rfl) (pv 0) pe_int (fun _ _ => rfl)) (pe_ix (ixT c.K rfl) (pv 1) pe_int (fun _ _ => rfl))) pa_nil))))), ?_⟩
    refine s_ret (ev_call (R := R_l_number) ?_ ⟨_, _, rfl, Int.mul_ne_zero (den_ne p) (den_ne q), big_mono (ml1 hp.n hq.n) (by decide), big_mono (ml1 hp.d hq.d) (by decide), by rw [← mul_divInt]⟩) k
    walk_at "k66ev"
    · exact cm1 hp.n hq.n
    · exact cm1 hp.d hq.d
def R_l_less (ks : List KD) (kd : KD) : Prop := ∃ p q : Rat, ks = [.d (numD p), .d (numD q)] ∧ Lw p ∧ Lw q ∧ kd = .d (.bool (decide (p < q)))
theorem c_l_less (T : Txt c mg aZ aT) (S : Src c.K mg "_law_less" t_l_less ["_law_first", "_law_second"])  :
    Def P w c.K mg base "_law_less" ["_law_first", "_law_second"] 1 (spF c R_l_less) := S.ok fun f fd F => by
  refine F.ok sc_l_less (fun vs H Q E h => ?_) (fun cdv A outer s H vs Q E hr h => ?_)
  · obtain ⟨_, _, hk, ⟨a, b, rfl, _⟩, _⟩ := h
    exact hk.length
  · obtain ⟨_, _, hk, ⟨p, q, rfl, hp, hq, rfl⟩, k⟩ := h
    obtain ⟨v0, v1, rfl, r0, r1⟩ := KpAll.two hk
    refine ⟨_, (pss_one (ps_ret (pe_cmpR op_lt (pe_op op_mulW (pe_ix (ixT c.K rfl) (pv 0) pe_int (fun _ _ => rfl)) (pe_ix (ixT c.K rfl) (pv 1) pe_int (fun _ _ => rfl))) (pe_op op_mulW (pe_ix (ixT c.K rfl) (pv 1) pe_int (fun _ _ => rfl)) (pe_ix (ixT c.K rfl) (pv 0) pe_int (fun _ _ => rfl))) (nomark _)))), ?_⟩
    refine s_ret (kd := .d (.bool (decide (p < q)))) (ev_is (kd := .d (.bool (decide (p.num * q.den < q.num * p.den)))) ?_ (by rw [lt_num])) k
    walk_at "k66ev"
    · exact cm1 hp.n hq.d
    · exact cm1 hq.n hp.d
/-- what is asked for a value on a line, by the law -/
structure LwL (n : Nd) (y : Rat) : Prop where
  hx : Lw n.x
  hy : Lw y
  hk : Lw n.k
  hs : Lw n.s
  hd : Lw (y - n.x)
  hp : Lw (n.k * (y - n.x))
def R_l_line (ks : List KD) (kd : KD) : Prop := ∃ (n : Nd) (y : Rat), ks = [.d (nodeD n), .d (numD y)] ∧ LwL n y ∧ kd = .d (numD (lineAt n y))
theorem c_l_line (T : Txt c mg aZ aT) (S : Src c.K mg "_law_line" t_l_line ["_law_node", "_law_x"]) (c_l_plus : Def P w c.K mg base "_law_plus" ["_law_first", "_law_second"] 3 (spF c R_l_plus)) (c_l_by : Def P w c.K mg base "_law_by" ["_law_first", "_law_second"] 3 (spF c R_l_by)) (c_l_minus : Def P w c.K mg base "_law_minus" ["_law_first", "_law_second"] 3 (spF c R_l_minus)) :
    Def P w c.K mg base "_law_line" ["_law_node", "_law_x"] 4 (spF c R_l_line) := S.ok fun f fd F => by
  refine F.ok sc_l_line (fun vs H Q E h => ?_) (fun cdv A outer s H vs Q E hr h => ?_)
  · obtain ⟨_, _, hk, ⟨p, _, rfl, _⟩, _⟩ := h
    exact hk.length
  · obtain ⟨_, _, hk, ⟨n, y, rfl, hs, rfl⟩, k⟩ := h
    obtain ⟨v0, v1, rfl, r0, r1⟩ := KpAll.two hk
    refine ⟨_, (pss_one (ps_ret (c_l_plus.pe (hr.mono (by decide)) (by rfl) (pa_cons (pe_ix (ixT c.K rfl) (pv 0) pe_int (fun _ _ => rfl)) (pa_cons (c_l_by.pe (hr.mono (by decide)) (by rfl) (pa_cons (pe_ix (ixT c.K rfl) (pv 0) pe_int (fun _ _ => rfl)) (pa_cons (c_l_minus.pe (hr.mono (by decide)) (by rfl) (pa_cons (pv 1) (pa_cons (pe_ix (ixT c.K rfl) (pv 0) pe_int (fun _ _ => rfl)) pa_nil))) pa_nil))) pa_nil))))), ?_⟩
    refine s_ret (ev_call (R := R_l_plus) (ea_cons (ev_ixT (ev_var rfl r0) ev_int (atI_nat (j := 2) rfl)) (ea_cons (ev_call (R := R_l_by) (ea_cons (ev_ixT (ev_var rfl r0) ev_int (atI_nat (j := 3) rfl)) (ea_cons (ev_call (R := R_l_minus)
      (ea_cons (ev_var rfl r1) (ea_cons (ev_ixT (ev_var rfl r0) ev_int (atI_nat (j := 0) rfl)) ea_nil)) ⟨y, n.x, rfl, hs.hy, hs.hx, rfl⟩) ea_nil)) ⟨n.k, y - n.x, rfl, hs.hk, hs.hd, rfl⟩) ea_nil)) ⟨n.s, n.k * (y - n.x), rfl, hs.hs, hs.hp, rfl⟩) k
theorem mkC_snoc (l : List Nd) (m : Nd) : mkC (l ++ [m]) = match (mkC l).getLast? with | none => mkC l ++ [m] | some n => if idle n m then mkC l else mkC l ++ [m] := by
  cases l with
  | nil => rfl
  | cons n t =>
    show n :: thin n (t ++ [m]) = _
    rw [thin_snoc]
    have e : (mkC (n :: t)).getLast? = some (lastOf n (thin n t)) := by
      show (n :: thin n t).getLast? = _
      unfold lastOf
      rw [List.getLast?_eq_some_getLast (List.cons_ne_nil n _)]
      rfl
    rw [e]
    show n :: (if _ then _ else _) = if _ then n :: thin n t else n :: thin n t ++ [m]
    split <;> rfl
theorem mkC_len (l : List Nd) : (mkC l).length ≤ l.length := by
  have q1 : ∀ (l : List Nd) (a : Nd), (thin a l).length ≤ l.length := by
    intro l
    induction l with
    | nil => intro a; exact Nat.le_refl _
    | cons b l ih =>
      intro a
      unfold thin
      split
      · exact Nat.le_trans (ih a) (by simp)
      · have := ih b
        simp only [List.length_cons]
        omega
  cases l with
  | nil => exact Nat.le_refl _
  | cons n t => exact Nat.succ_le_succ (q1 t n)
def R_l_needed (ks : List KD) (kd : KD) : Prop := ∃ f : List Nd, ks = [.l (f.map nodeD)] ∧ f.length ≤ 1000 ∧ (∀ n ∈ f, ∀ m ∈ f, LwL n m.x) ∧ kd = .l ((mkC f).map nodeD)
theorem c_l_needed (T : Txt c mg aZ aT) (S : Src c.K mg "_law_needed" t_l_needed ["_law_nodes"]) (c_l_line : Def P w c.K mg base "_law_line" ["_law_node", "_law_x"] 4 (spF c R_l_line)) :
    Def P w c.K mg base "_law_needed" ["_law_nodes"] 5 (spF c R_l_needed) := S.ok fun f fd F => by
  refine F.ok sc_l_needed (fun vs H Q E h => ?_) (fun cdv A outer s H vs Q E hr h => ?_)
  · obtain ⟨_, _, hk, ⟨p, rfl, _⟩, _⟩ := h
    exact hk.length
  · obtain ⟨_, _, hk, ⟨g, rfl, hz, hl, rfl⟩, k⟩ := h
    obtain ⟨v0, rfl, r0⟩ := KpAll.one hk
    refine ⟨_, (pss_cons (ps_set (i := 1) sc_l_needed.nd rfl (Or.inl rfl) (pe_lst pa_nil))
      (pss_cons (ps_for PassesOwn.never rfl (piL c.K rfl (pv 0)) (pg_name (i := 2) sc_l_needed.nd rfl (Or.inl rfl)) (pss_cons (ps_set (i := 3) sc_l_needed.nd rfl (Or.inl rfl) (pe_ifExp (pt_cmpR (oNeD c.K rfl hr.units) (pv 1) (pe_lst pa_nil) (nomark _)) (c_l_line.pe (hr.mono (by decide)) (by rfl) (pa_cons (pe_ix (ixL c.K rfl) (pv 1) (pe_un un_neg pe_int) (fun _ _ => rfl)) (pa_cons (pe_ix (ixT c.K rfl) (pv 2) pe_int (fun _ _ => rfl)) pa_nil))) pe_non))
      (pss_one (ps_if (PW.pt (pw_or (pt_cmpR (oEqD c.K rfl hr.units) (pv 1) (pe_lst pa_nil) (nomark _)) (pw_or1 (pt_cmpR (oNeD c.K rfl hr.units) (pe_tup (pa_cons (pe_ix (ixT c.K rfl) (pv 2) pe_int (fun _ _ => rfl)) (pa_cons (pe_ix (ixT c.K rfl) (pv 2) pe_int (fun _ _ => rfl)) (pa_cons (pe_ix (ixT c.K rfl) (pv 2) pe_int (fun _ _ => rfl)) pa_nil)))) (pe_tup (pa_cons (pv 3) (pa_cons (pv 3) (pa_cons (pe_ix (ixT c.K rfl) (pe_ix (ixL c.K rfl) (pv 1) (pe_un un_neg pe_int) (fun _ _ => rfl)) pe_int (fun _ _ => rfl)) pa_nil)))) (nomark _))))) (pss_one (ps_expr (pe_bm PySem.F.plainAttrs_list PySem.F.slot_list_append PySem.F.type_list_append mt_append (pv 1) (pa_cons (pv 2) pa_nil)))) pss_nil))))
      (pss_one (ps_ret (pv 1))))), ?_⟩
    refine n_asgF (ef_lst (c := c) ed_nil) fun l vs0 H1 hl0 e1 hl1 rl => ?_
    obtain rfl : vs0 = [] := by cases rl; rfl
    obtain ⟨a, us, rfl, ha0, hx0⟩ := (show LstR c H v0 _ from r0)
    have hne : a ≠ l := by
      rintro rfl
      rw [hl0] at ha0
      cases ha0
    refine n_forLv nodeD g rfl (e1 _ _ ha0) (hx0.mono (Tx.of e1)) (fun j σ' H' => ∃ w2 w3 acc, σ' = [some (.ref a), some (.ref l), w2, w3] ∧ Ex H H' ∧ Tx H1 H' ∧ H' a = some (.lst us) ∧ H' l = some (.lst acc) ∧ FpAll c.K H' acc ((mkC (g.take j)).map nodeD)) ?_ ?_ ?_ ?_
    · exact ⟨none, none, [], rfl, e1, Tx.refl _, e1 _ _ ha0, hl1, .nil⟩
    · rintro j σ' H' ⟨w2, w3, acc, _, _, h1, h2, _⟩
      exact ⟨h1, h2⟩
    · rintro j m v σ' H' hj ⟨w2, w3, acc, rfl, x1, x2, x3, x4, x5⟩ rv
      have hm : m ∈ g := List.mem_of_getElem? hj
      have rv : Kp c H' v (.d (nodeD m)) := rv
      have tk : g.take (j + 1) = g.take j ++ [m] := by rw [List.take_add_one, hj]; rfl
      have hsn := mkC_snoc (g.take j) m
      rw [← tk] at hsn
      have hlen := mkC_len (g.take j)
      rw [List.length_take] at hlen
      have hmem : ∀ n, (mkC (g.take j)).getLast? = some n → n ∈ g := fun n hn => List.mem_of_mem_take (mem_mkC (List.mem_of_getLast? hn))
      generalize mkC (g.take j) = C at x5 hsn hlen hmem
      have rl : Kp c H' (.ref l) (.l (C.map nodeD)) := ⟨l, acc, rfl, x4, x5⟩
      have app : ∀ w3' H2, Ex H' H2 → mkC (g.take (j + 1)) = C ++ [m] → tDrop (tBM c.K "list" rAppend (tVar 1) (tCons (tVar 2) tNil)) { nx := fun σ2 H2 => ∃ w2 w3 acc, σ2 = [some (.ref a), some (.ref l), w2, w3] ∧ Ex H H2 ∧ Tx H1 H2 ∧ H2 a = some (.lst us) ∧ H2 l = some (.lst acc) ∧ FpAll c.K H2 acc ((mkC (g.take (j + 1))).map nodeD), rt := Q, bk := fun _ _ => True, ct := fun _ _ => True } [some (.ref a), some (.ref l), some v, w3'] H2 := by
        intro w3' H2 e2 hC
        refine s_app (d := nodeD m) (e2 _ _ x4) (x5.mono (Tx.of e2)) (by rw [List.length_map]; omega) rfl (ev_var rfl (rv.mono e2)) fun vn H3 e3 f3 => ?_
        have l3 := e3 _ _ (e2 _ _ x4)
        refine ⟨_, _, acc ++ [vn], rfl, Ex.mut ((x1.trans e2).trans e3) hl0, (x2.trans (Tx.of (e2.trans e3))).trans (Tx.upd l3), ?_, upd_same, ?_⟩
        · rw [upd_ne hne]
          exact e3 _ _ (e2 _ _ x3)
        · rw [hC, List.map_append]
          exact f3
      have eqE : ∀ {σ : L2.St} {b : Bool}, σ[1]? = some (some (.ref l)) → C.isEmpty = b → EvK c (tOp (rEqD c.K) (tVar 1) (tLst tNil)) σ H' (.d (.bool b)) := fun hσ hb => ev_is (ev_eqD (ev_var hσ rl) (EvF.k (ef_lst ed_nil)) (.l _) (.l _) (shaped_nodes C).1 rfl) (by
        rw [← hb]
        cases C <;> rfl)
      have neE : ∀ {σ : L2.St} {b : Bool}, σ[1]? = some (some (.ref l)) → (!C.isEmpty) = b → EvK c (tOp (rNeD c.K) (tVar 1) (tLst tNil)) σ H' (.d (.bool b)) := fun hσ hb => ev_is (ev_neD (ev_var hσ rl) (EvF.k (ef_lst ed_nil)) (.l _) (.l _) (shaped_nodes C).1 rfl) (by
        rw [← hb]
        cases C <;> rfl)
      cases hC : C.getLast? with
      | none =>
        rw [hC] at hsn
        have hsn : mkC (g.take (j + 1)) = C ++ [m] := hsn
        have hem : C.isEmpty = true := by rw [List.getLast?_eq_none_iff.mp hC]; rfl
        refine n_asg (c := c) (kd := .d .none) (ev_if (b := false) (et_test (neE rfl (by rw [hem]; rfl))) (fun z => nomatch z) fun _ => ev_non) fun v3 H2 e2 r3 => ?_
        exact s_ifE (b := true) (et_or (a := true) (b := true) (et_test (EvK.mono e2 (eqE rfl hem))) fun z => nomatch z) (fun _ H3 e3 => app _ H3 (e2.trans e3) hsn) fun z => nomatch z
      | some n =>
        rw [hC] at hsn
        have hsn : mkC (g.take (j + 1)) = if idle n m then C else C ++ [m] := hsn
        have hn := hmem n hC
        have hem : C.isEmpty = false := by
          cases C with
          | nil => cases hC
          | cons _ _ => rfl
        have hback : L2.atI (C.map nodeD) (-1) = some (nodeD n) := by
          refine atI_back ?_
          rw [List.getLast?_map, hC]
          rfl
        refine n_asg (kd := .d (numD (lineAt n m.x))) (ev_if (b := true) (et_test (neE rfl (by rw [hem]; rfl))) (fun _ => ev_call (ea_cons (ev_ixL (ev_var rfl rl) (ev_neg ev_int) hback) (ea_cons (ev_ixT (ev_var rfl rv) ev_int (atI_nat (j := 0) rfl)) ea_nil)) ⟨n, m.x, rfl, hl n hn m hm, rfl⟩) fun z => nomatch z) fun v3 H2 e2 r3 => ?_
        have rv := rv.mono e2
        have rl := rl.mono e2
        refine s_ifE (b := !idle n m) (et_is (et_or (a := false) (et_test (EvK.mono e2 (eqE rfl hem))) fun _ => et_test (ev_is (ev_neD (ev_tup (ds := [numD m.v, numD m.s, numD m.k]) (ed_cons (ev_ixT (ev_var rfl rv) ev_int (atI_nat (j := 1) rfl)) (ed_cons (ev_ixT (ev_var rfl rv) ev_int (atI_nat (j := 2) rfl)) (ed_cons (ev_ixT (ev_var rfl rv) ev_int (atI_nat (j := 3) rfl)) ed_nil)))) (ev_tup (ds := [numD (lineAt n m.x), numD (lineAt n m.x), numD n.k]) (ed_cons (ev_var rfl r3) (ed_cons (ev_var rfl r3) (ed_cons (ev_ixT (ds := [numD n.x, numD n.v, numD n.s, numD n.k]) (ev_ixL (ev_var rfl rl) (ev_neg ev_int) hback) ev_int (atI_nat (j := 3) rfl)) ed_nil)))) (.d _) (.d _) rfl rfl) (by rw [idle_eqv]))) (Bool.false_or _)) (fun hb H3 e3 => ?_) fun hb H3 e3 => ?_
        · have hb : idle n m = false := by simpa using hb
          rw [hb] at hsn
          exact app _ H3 (e2.trans e3) hsn
        · have hb : idle n m = true := by simpa using hb
          rw [hb] at hsn
          have hsn : mkC (g.take (j + 1)) = C := hsn
          have e23 := e2.trans e3
          exact ⟨_, _, acc, rfl, x1.trans e23, x2.trans (Tx.of e23), e23 _ _ x3, e23 _ _ x4, by rw [hsn]; exact x5.mono (Tx.of e23)⟩
    · rintro σ' H' ⟨w2, w3, acc, rfl, x1, x2, x3, x4, x5⟩
      rw [List.take_length] at x5
      exact s_ret (ev_var (kd := .l ((mkC g).map nodeD)) rfl ⟨l, acc, rfl, x4, x5⟩) fun v H3 e3 r => k v H3 (x1.trans e3) r
end
end K66
set_option Elab.async false
set_option linter.all false
set_option autoImplicit false
set_option maxRecDepth 100000
set_option maxHeartbeats 4000000
/-! KL2: the law's feed: made, taken from, picked with. -/
namespace K66
open PySem PySem.Spec PyProof.Rows L2
open Evl (Ex EvT)
/-! ### the feed and what stays when it is taken from -/
def Fd (H : Hp) (a : Addr) : Prop := ∃ d r : Int, 0 ≤ d ∧ 0 ≤ r ∧ r < 2 ^ 40 ∧ H a = some (.lst [.int d, .int r])
structure Fx (a : Addr) (H H' : Hp) : Prop where
  om : ∀ b o, b ≠ a → H b = some o → H' b = some o
  fd : Fd H' a
theorem Fd.ex {H H' : Hp} {a : Addr} (h : Fd H a) (e : Ex H H') : Fd H' a := by
  obtain ⟨d, r, h1, h2, h3, h4⟩ := h
  exact ⟨d, r, h1, h2, h3, e _ _ h4⟩
theorem Fx.refl {a : Addr} {H : Hp} (h : Fd H a) : Fx a H H := ⟨fun _ _ _ q => q, h⟩
theorem Fx.trans {a : Addr} {H H1 H2 : Hp} (x : Fx a H H1) (y : Fx a H1 H2) : Fx a H H2 := ⟨fun b o n q => y.om b o n (x.om b o n q), y.fd⟩
theorem Fx.of {a : Addr} {H H' : Hp} (h : Fd H a) (e : Ex H H') : Fx a H H' := ⟨fun b o _ q => e b o q, h.ex e⟩
theorem Fx.ex {a : Addr} {H H1 H2 : Hp} (x : Fx a H H1) (e : Ex H1 H2) : Fx a H H2 := x.trans (Fx.of x.fd e)
theorem Fd.ne {H : Hp} {a l : Addr} (h : Fd H a) (hl : H l = none) : l ≠ a := by
  rintro rfl
  obtain ⟨d, r, h1, h2, h3, h4⟩ := h
  rw [hl] at h4
  cases h4
theorem Fx.mut {a l : Addr} {o : HO} {H H' : Hp} (x : Fx a H H') (h : Fd H a) (hl : H l = none) : Fx a H (upd H' l o) := by
  have hn := h.ne hl
  refine ⟨fun b u n q => ?_, ?_⟩
  · rw [upd_ne (fun z => by rw [z, hl] at q; cases q)]
    exact x.om b u n q
  · obtain ⟨d, r, h1, h2, h3, h4⟩ := x.fd
    exact ⟨d, r, h1, h2, h3, by rw [upd_ne hn.symm]; exact h4⟩
theorem Fx.tx {a : Addr} {H H' : Hp} (x : Fx a H H') (h : Fd H a) : Tx H H' := fun b o q n => by
  by_cases e : b = a
  · obtain ⟨d, r, h1, h2, h3, h4⟩ := h
    rw [e, h4] at q
    exact absurd (Option.some.inj q).symm (n _)
  · exact x.om b o e q
/-- the feed taken from -/
theorem Fx.took {a : Addr} {H : Hp} {d r : Int} (h1 : 0 ≤ d) (h2 : 0 ≤ r) (h3 : r < 2 ^ 40) : Fx a H (upd H a (.lst [.int d, .int r])) := ⟨fun b o n q => by rw [upd_ne n]; exact q, d, r, h1, h2, h3, upd_same⟩
/-! ### in the passing style -/
section
variable {c : Cv} {σ : L2.St} {H : Hp} {ta tb te : TE} {tr : TA} {Q : VK} {D : Ends} {kd : KD} {tw : TS} {a : Addr}
theorem x_ret (h : te σ H D.rt) : tRet te D σ H := h
theorem x_op {r : R2} (h : ta σ H fun x H1 => tb σ H1 fun y H2 => r x y H2 Q) : tOp r ta tb σ H Q := h
theorem x_un {r : V → Hp → VK → Prop} (h : ta σ H fun x H1 => r x H1 Q) : tUn r ta σ H Q := h
theorem x_call {sp : Sp} {E : XK} {t : TA} (h : t σ H fun vs H1 => sp (vs ++ []) H1 Q E) : tCall sp [] E t σ H Q := h
theorem x_cons {K : List V → Hp → Prop} (h : te σ H fun v H1 => tr σ H1 fun vs H2 => K (v :: vs) H2) : tCons te tr σ H K := h
theorem x_nil {K : List V → Hp → Prop} (h : K [] H) : tNil σ H K := h
theorem x_var {i : Nat} {v : V} (hi : σ[i]? = some (some v)) (h : Q v H) : tVar i σ H Q := ⟨v, hi, h⟩
theorem x_c {v : V} (h : Q v H) : tC v σ H Q := h
theorem x_neg {i : Int} (h : Q (.int (-i)) H) : tUn (rU fun i => .int (-i)) (tC (.int i)) σ H Q := ⟨i, rfl, h⟩
theorem x_ev (h : EvK c te σ H kd) (k : ∀ v H1, Ex H H1 → Kp c H1 v kd → Q v H1) : te σ H Q := h H (Ex.refl H) _ k
theorem x_lst {t : TA} (h : t σ H fun vs H1 => vs.length ≤ sizeLine ∧ ∀ p, H1 p = none → Q (.ref p) (upd H1 p (.lst vs))) : tLst t σ H Q := h
theorem x_tup {t : TA} (h : t σ H fun vs H1 => vs.length ≤ sizeLine ∧ ∀ p, H1 p = none → Q (.ref p) (upd H1 p (.tup vs))) : tTup t σ H Q := h
theorem x_asg {i : Nat} (h : te σ H fun v H1 => D.nx (σ.set i (some v)) H1) : tAsg te (gName i) D σ H := h
theorem n_xasg {i : Nat} (h : te σ H fun v H1 => tw D (σ.set i (some v)) H1) : tSeq (tAsg te (gName i)) tw D σ H := h
theorem n_xpar {i j : Nat} (h : ta σ H fun v H1 => tb σ H1 fun w H2 => tw D ((σ.set i (some v)).set j (some w)) H2) : tSeq (tPar i j (tCons ta (tCons tb tNil))) tw D σ H := by
  have e : (tCons ta (tCons tb tNil)) σ H (fun vs H1 => ∃ v w, vs = [v, w] ∧ ({ D with nx := tw D } : Ends).nx ((σ.set i (some v)).set j (some w)) H1) = ta σ H fun v H1 => tb σ H1 fun w H2 => ∃ v' w', [v, w] = [v', w'] ∧ tw D ((σ.set i (some v')).set j (some w')) H2 := rfl
  show (tCons ta (tCons tb tNil)) σ H (fun vs H1 => ∃ v w, vs = [v, w] ∧ ({ D with nx := tw D } : Ends).nx ((σ.set i (some v)).set j (some w)) H1)
  rw [e]
  have m : (fun v H1 => tb σ H1 fun w H2 => ∃ v' w', [v, w] = [v', w'] ∧ tw D ((σ.set i (some v')).set j (some w')) H2) = fun v H1 => tb σ H1 fun w H2 => tw D ((σ.set i (some v)).set j (some w)) H2 := by
    funext v H1
    congr 1
    funext w H2
    exact propext ⟨fun ⟨v', w', z, q⟩ => by cases z; exact q, fun q => ⟨v, w, rfl, q⟩⟩
  rw [m]
  exact h
theorem s_retF {ds : List PyData} (h : EvF c te σ H ds) (k : ∀ p vs H1, H p = none → Ex H H1 → H1 p = some (.lst vs) → FpAll c.K H1 vs ds → D.rt (.ref p) H1) : tRet te D σ H := h H (Ex.refl H) _ k
/-- l[i] = e -/
theorem n_set {i j : Nat} {k : Int} {vs : List V} (hi : σ[i]? = some (some (.ref a))) (ha : H a = some (.lst vs)) (hk : ixN vs.length k = some j) (h : EvK c te σ H kd)
    (q : ∀ v H1, Ex H H1 → Kp c H1 v kd → tw D σ (upd H1 a (.lst (vs.set j v)))) : tSeq (tAsg te (gSub (tVar i) (tC (.int k)) rSetL)) tw D σ H := h H (Ex.refl H) _ fun v H1 e r =>
  ⟨.ref a, hi, a, vs, k, j, rfl, rfl, e _ _ ha, hk, q v H1 e r⟩
theorem ef_cut {ds : List PyData} {i j : Nat} (h : EvK c te σ H (.l ds)) (hi : EvK c ta σ H (.d (.int (i : Int)))) (hj : EvK c tb σ H (.d (.int (j : Int)))) : EvF c (tSl (rSlL c.K) te (tPart ta) (tPart tb)) σ H ((ds.drop (min i ds.length)).take (min j ds.length - min i ds.length)) := fun H1 e Q q =>
  h H1 e _ fun x H2 e2 r => hi H2 (e.trans e2) _ fun y H3 e3 ry => ⟨(i : Int), Fp.intE ry, hj H3 ((e.trans e2).trans e3) _ fun z H4 e4 rz => ⟨(j : Int), Fp.intE rz, by
    obtain ⟨a, vs, rfl, h1, h2⟩ := (show LstR c H2 x ds from r)
    have E := (e2.trans e3).trans e4
    refine ⟨a, vs, rfl, SqL.of (e4 _ _ (e3 _ _ h1)), fun p hp => ?_⟩
    refine q p _ _ (Evl.fresh_back E hp) (E.trans (Ex.new hp)) upd_same ?_
    unfold cutV
    rw [HT.sIx_nat, HT.sIx_nat, h2.length]
    exact ((h2.mono (Tx.of ((e3.trans e4).trans (Ex.new hp)))).drop _).take _⟩⟩
theorem all_ints {K : Fg} {H : Hp} : ∀ xs : List Int, FpAll K H (xs.map V.int) (xs.map PyData.int)
  | [] => .nil
  | x :: xs => .cons (.int x) (all_ints xs)
/-- the script, from one place up to another -/
theorem ef_cutS {xs : List Int} {b : Addr} {l i j : Nat} (hl : σ[l]? = some (some (.ref b))) (hb : SqL c.K H b (xs.map V.int)) (hi : EvK c ta σ H (.d (.int (i : Int)))) (hj : EvK c tb σ H (.d (.int (j : Int)))) : EvF c (tSl (rSlL c.K) (tVar l) (tPart ta) (tPart tb)) σ H (((xs.map PyData.int).drop (min i xs.length)).take (min j xs.length - min i xs.length)) := fun H1 e Q q =>
  ⟨.ref b, hl, hi H1 e _ fun y H3 e3 ry => ⟨(i : Int), Fp.intE ry, hj H3 (e.trans e3) _ fun z H4 e4 rz => ⟨(j : Int), Fp.intE rz, by
    have E := e3.trans e4
    refine ⟨b, _, rfl, Evl.ex_l (e.trans E) hb, fun p hp => ?_⟩
    refine q p _ _ (Evl.fresh_back E hp) (E.trans (Ex.new hp)) upd_same ?_
    unfold cutV
    rw [HT.sIx_nat, HT.sIx_nat, List.length_map]
    exact ((all_ints xs).drop _).take _⟩⟩⟩
theorem ev_lenS {xs : List Int} {b : Addr} {l : Nat} (hl : σ[l]? = some (some (.ref b))) (hb : SqL c.K H b (xs.map V.int)) : EvK c (tCB (rLenOf c.K) (tCons (tVar l) tNil)) σ H (.d (.int (xs.length : Int))) := fun H1 e Q q =>
  ⟨.ref b, hl, b, _, rfl, .inl (Evl.ex_l e hb), q _ H1 (Ex.refl H1) (by rw [List.length_map]; exact .int _)⟩
theorem ef_listOf {ds : List PyData} (h : EvK c ta σ H (.l ds)) : EvF c (tCB (rLstOf c.K) (tCons ta tNil)) σ H ds := fun H1 e Q q =>
  h H1 e _ fun x H2 e2 r => by
    obtain ⟨a, vs, rfl, h1, h2⟩ := (show LstR c H2 x ds from r)
    exact ⟨a, vs, rfl, .inl (SqL.of h1), fun p hp => q p _ _ (Evl.fresh_back e2 hp) (e2.trans (Ex.new hp)) upd_same (h2.mono (Tx.of (Ex.new hp)))⟩
theorem ev_max {i j : Int} (ha : EvK c ta σ H (.d (.int i))) (hb : EvK c tb σ H (.d (.int j))) : EvK c (tCB (fun xs H Q => ∃ i j, xs = [.int i, .int j] ∧ Q (.int (if j > i then j else i)) H) (tCons ta (tCons tb tNil))) σ H (.d (.int (if j > i then j else i))) :=
  ev_cb (ea_cons ha (ea_cons hb ea_nil)) fun H1 _ vs r Q q => by
    obtain ⟨v, w, rfl, hv, hw⟩ := KpAll.two r
    exact ⟨i, j, by rw [Fp.intE hv, Fp.intE hw], q _ H1 (Ex.refl H1) (.int _)⟩
theorem ev_min {i j : Int} (ha : EvK c ta σ H (.d (.int i))) (hb : EvK c tb σ H (.d (.int j))) : EvK c (tCB (fun xs H Q => ∃ i j, xs = [.int i, .int j] ∧ Q (.int (if j < i then j else i)) H) (tCons ta (tCons tb tNil))) σ H (.d (.int (if j < i then j else i))) :=
  ev_cb (ea_cons ha (ea_cons hb ea_nil)) fun H1 _ vs r Q q => by
    obtain ⟨v, w, rfl, hv, hw⟩ := KpAll.two r
    exact ⟨i, j, by rw [Fp.intE hv, Fp.intE hw], q _ H1 (Ex.refl H1) (.int _)⟩
theorem ev_int1 {i : Int} (ha : EvK c ta σ H (.d (.int i))) : EvK c (tCB (fun xs H Q => (∃ i, xs = [.int i] ∧ Q (.int i) H) ∨ ∃ k, xs = [.bl k] ∧ Q (.int (if k then 1 else 0)) H) (tCons ta tNil)) σ H (.d (.int i)) :=
  ev_cb (ea_cons ha ea_nil) fun H1 _ vs r Q q => by
    obtain ⟨v, rfl, hv⟩ := KpAll.one r
    exact .inl ⟨i, by rw [Fp.intE hv], q _ H1 (Ex.refl H1) (.int _)⟩
end
section
variable {P : Program} {w : World} {c : Cv} {mg : Str → Option Value} {base : Heap} {aZ aT : Addr}
def sp_l_feed (c : Cv) : Sp := fun vs H Q _ => ∃ (xs : List Int) (k : Nat) (b : Addr), vs = [.ref b, .int (k : Int)] ∧ SqL c.K H b (xs.map V.int) ∧ k < 100 ∧ ∀ a H', H a = none → Ex H H' → Fd H' a → Q (.ref a) H'
def sp_l_take (c : Cv) : Sp := fun vs H Q _ => ∃ (a : Addr) (n : Int), vs = [.ref a, .int n] ∧ Fd H a ∧ 0 < n ∧ n < 2 ^ 60 ∧ ∀ t H', 0 ≤ t → t < n → Fx a H H' → Q (.int t) H'
def sp_l_pick (c : Cv) : Sp := fun vs H Q _ => ∃ (a b : Addr) (us : List V) (ds : List PyData), vs = [.ref a, .ref b] ∧ Fd H a ∧ b ≠ a ∧ H b = some (.lst us) ∧ FpAll c.K H us ds ∧ ds ≠ [] ∧ ds.length ≤ 1000 ∧ ∀ d v H', d ∈ ds → Fx a H H' → Fp c.K H' v d → Q v H'
def sp_l_some_number (c : Cv) : Sp := fun vs H Q _ => ∃ a : Addr, vs = [.ref a] ∧ Fd H a ∧ ∀ q v H', Ht 5 q → Fx a H H' → Kp c H' v (.d (numD q)) → Q v H'
theorem abs_lt {i : Int} {n : Nat} (h0 : 0 ≤ i) (h : i < n) : i.natAbs < n := by omega
theorem c_l_feed (T : Txt c mg aZ aT) (S : Src c.K mg "_law_feed" t_l_feed ["_law_script", "_law_k"])  :
    Def P w c.K mg base "_law_feed" ["_law_script", "_law_k"] 1 (sp_l_feed c) := S.ok fun f fd F => by
  refine F.ok sc_l_feed (fun vs H Q E h => ?_) (fun cdv A outer s H vs Q E hr h => ?_)
  · obtain ⟨xs, k, b, rfl, _⟩ := h
    rfl
  · obtain ⟨xs, m, b, rfl, r0, hm, k⟩ := h
    have r1 : Kp c H (.int (m : Int)) (.d (.int (m : Int))) := Fp.int _
    refine ⟨_, (pss_cons (ps_set (i := 2) sc_l_feed.nd rfl (Or.inl rfl) (pe_ix (ixL c.K rfl) (pe_op op_cat (pe_callTy (kList c.K rfl) (by rfl) T.list (by decide +kernel) (pa_cons (pe_slice (slL c.K rfl) (pv 0) (po_some (pv 1)) (po_some (pe_op op_add (pv 1) pe_int))) pa_nil)) (pe_lst (pa_cons (pe_op op_add (pe_op op_mulW pe_int (pv 1)) pe_int) pa_nil))) pe_int (fun _ _ => rfl)))
      (pss_cons (ps_set (i := 3) sc_l_feed.nd rfl (Or.inl rfl) (pe_callB (call_max2 rfl) (by rfl) T.max (by decide +kernel) (pa_cons pe_int (pa_cons (pe_op op_sub (pe_callB call_abs (by rfl) T.abs (by decide +kernel) (pa_cons (pv 2) pa_nil)) (pe_op op_pow pe_int pe_int)) pa_nil))))
      (pss_one (ps_ret (pe_lst (pa_cons (pv 3) (pa_cons (pe_op op_mod (pe_callTy call_int1 (by rfl) T.int (by decide +kernel) (pa_cons (pe_op op_add (pe_op op_add (pe_op op_mulW (pe_op op_mod (pe_callTy call_int1 (by rfl) T.int (by decide +kernel) (pa_cons (pe_callB call_abs (by rfl) T.abs (by decide +kernel) (pa_cons (pv 2) pa_nil)) pa_nil)) pe_int) pe_int) (pe_op op_mulW pe_int (pv 1))) pe_int) pa_nil)) pe_int) pa_nil))))))), ?_⟩
    have seed : ∃ sd : Int, EvK c (tOp (rIxL c.K) (tOp rCat (tCB (rLstOf c.K) (tCons (L2.tSl (rSlL c.K) (tVar 0) (tPart (tVar 1)) (tPart (tOp (rI0 fun i j => .int (i + j)) (tVar 1) (tC (.int 1))))) tNil)) (tLst (tCons (tOp (rI0 fun i j => .int (i + j)) (tOp (rI CMulW fun i j => .int (i * j)) (tC (.int 71)) (tVar 1)) (tC (.int 23))) tNil))) (tC (.int 0))) [some (.ref b), some (.int (m : Int)), none, none] H (.d (.int sd)) := by
      have hc := ef_cutS (c := c) (l := 0) (i := m) (j := m + 1) (ta := tVar 1) (tb := tOp (rI0 fun i j => .int (i + j)) (tVar 1) (tC (.int 1))) (σ := [some (.ref b), some (.int (m : Int)), none, none]) rfl r0 (ev_var rfl r1) (ev_is (ev_I0 (g := fun i j => i + j) (ev_var rfl r1) ev_int) (by rw [Int.natCast_add]; rfl))
      have hl : ∀ ds : List PyData, EvF c (L2.tSl (rSlL c.K) (tVar 0) (tPart (tVar 1)) (tPart (tOp (rI0 fun i j => .int (i + j)) (tVar 1) (tC (.int 1))))) [some (.ref b), some (.int (m : Int)), none, none] H ds → ds.length ≤ 1 → (∀ d ∈ ds, ∃ sd : Int, d = .int sd) → ∃ sd : Int, EvK c (tOp (rIxL c.K) (tOp rCat (tCB (rLstOf c.K) (tCons (L2.tSl (rSlL c.K) (tVar 0) (tPart (tVar 1)) (tPart (tOp (rI0 fun i j => .int (i + j)) (tVar 1) (tC (.int 1))))) tNil)) (tLst (tCons (tOp (rI0 fun i j => .int (i + j)) (tOp (rI CMulW fun i j => .int (i * j)) (tC (.int 71)) (tVar 1)) (tC (.int 23))) tNil))) (tC (.int 0))) [some (.ref b), some (.int (m : Int)), none, none] H (.d (.int sd)) := by
        intro ds hd hz hi
        have hcat := ef_cat (EvF.k (ef_listOf (EvF.k hd))) (EvF.k (ef_lst (c := c) (ta := tCons (tOp (rI0 fun i j => .int (i + j)) (tOp (rI CMulW fun i j => .int (i * j)) (tC (.int 71)) (tVar 1)) (tC (.int 23))) tNil) (ds := [.int (71 * (m : Int) + 23)]) (ed_cons (ev_I0 (g := fun i j => i + j) (ev_I (g := fun i j => i * j) ev_int (ev_var rfl r1) (cmulW (a := 10) (b := 10) (by decide) (by have : m < 2 ^ 10 := Nat.lt_of_lt_of_le hm (by decide); exact this) (by decide) (by decide) (by decide))) ev_int) ed_nil))) (Nat.le_trans (Nat.add_le_add_right hz _) (show 1 + 1 ≤ 100000 by decide))
        cases ds with
        | nil => exact ⟨71 * (m : Int) + 23, ev_ixL (EvF.k hcat) ev_int (atI_nat (j := 0) rfl)⟩
        | cons d t =>
          obtain ⟨sd, rfl⟩ := hi d List.mem_cons_self
          exact ⟨sd, ev_ixL (EvF.k hcat) ev_int (atI_nat (j := 0) rfl)⟩
      refine hl _ hc ?_ ?_
      · rw [List.length_take]
        omega
      · intro d hd
        obtain ⟨i, _, rfl⟩ := List.mem_map.mp (List.mem_of_mem_drop (List.mem_of_mem_take hd))
        exact ⟨i, rfl⟩
    obtain ⟨sd, hsd⟩ := seed
    refine n_asg hsd fun v2 H1 e1 r2 => ?_
    refine n_asg (ev_max ev_int (ev_I0 (g := fun i j => i - j) (ev_abs (ev_var rfl r2)) (ev_I (g := fun i j => i ^ j.toNat) ev_int ev_int ⟨by decide, by decide, by decide⟩))) fun v3 H2 e2 r3 => ?_
    have r2 := r2.mono e2
    have r1 := (r1.mono e1).mono e2
    have hq : ∀ i : Int, 0 ≤ i % 1000003 ∧ i % 1000003 < 1000003 := fun i => ⟨Int.emod_nonneg _ (by decide), Int.emod_lt_of_pos _ (by decide)⟩
    refine s_retF (ef_lst (ed_cons (ev_var rfl r3) (ed_cons (ev_I (g := fun i j => i % j) (ev_int1 (ev_I0 (g := fun i j => i + j) (ev_I0 (g := fun i j => i + j) (ev_I (g := fun i j => i * j) (ev_I (g := fun i j => i % j) (ev_int1 (ev_abs (ev_var rfl r2))) ev_int (by decide)) ev_int ?_) (ev_I (g := fun i j => i * j) ev_int (ev_var rfl r1) ?_)) ev_int)) ev_int (by decide)) ed_nil))) fun p vs H3 hp e3 h3 r => ?_
    · exact cmulW (a := 20) (b := 13) (Nat.lt_of_lt_of_le (abs_lt (hq _).1 (hq _).2) (by decide)) (by decide) (by decide) (by decide) (by decide)
    · exact cmulW (a := 10) (b := 10) (by decide) (by have : m < 2 ^ 10 := Nat.lt_of_lt_of_le hm (by decide); exact this) (by decide) (by decide) (by decide)
    · have E := e1.trans e2
      refine k p H3 (Evl.fresh_back E hp) (E.trans e3) ?_
      cases r with
      | cons q1 t =>
        cases t with
        | cons q2 t =>
          cases t
          rw [Fp.intE q1, Fp.intE q2] at h3
          refine ⟨_, _, ?_, Int.emod_nonneg _ (by decide), Int.lt_of_lt_of_le (Int.emod_lt_of_pos _ (by decide)) (by decide), h3⟩
          split <;> omega
theorem take_d {d n : Int} (hd : 0 ≤ d) (hn : 0 < n) : 0 ≤ Int.fdiv d n := by
  rw [Int.fdiv_eq_ediv_of_nonneg _ (by omega)]
  exact Int.ediv_nonneg hd (by omega)
theorem c_l_take (T : Txt c mg aZ aT) (S : Src c.K mg "_law_take" t_l_take ["_law_feed_here", "_law_size"])  :
    Def P w c.K mg base "_law_take" ["_law_feed_here", "_law_size"] 1 (sp_l_take c) := S.ok fun f fd F => by
  refine F.ok sc_l_take (fun vs H Q E h => ?_) (fun cdv A outer s H vs Q E hr h => ?_)
  · obtain ⟨a, n, rfl, _⟩ := h
    rfl
  · obtain ⟨a, n, rfl, ⟨d, r, hd, hr0, hr1, ha⟩, hn, hz, k⟩ := h
    refine ⟨_, (pss_cons (ps_if (pt_cmpR op_gt (pe_ix (ixL c.K rfl) (pv 0) pe_int (fun _ _ => rfl)) pe_int (nomark _)) (pss_cons (ps_set (i := 2) sc_l_take.nd rfl (Or.inl rfl) (pe_op op_mod (pe_callTy call_int1 (by rfl) T.int (by decide +kernel) (pa_cons (pe_ix (ixL c.K rfl) (pv 0) pe_int (fun _ _ => rfl)) pa_nil)) (pv 1)))
      (pss_cons (ps_asg (pe_op op_fdivX (pe_ix (ixL c.K rfl) (pv 0) pe_int (fun _ _ => rfl)) (pv 1)) (pg_sub (pv 0) pe_int set_list))
      (pss_one (ps_ret (pv 2))))) pss_nil)
      (pss_cons (ps_asg (pe_op op_mod (pe_callTy call_int1 (by rfl) T.int (by decide +kernel) (pa_cons (pe_op op_add (pe_op op_mulW (pe_ix (ixL c.K rfl) (pv 0) pe_int (fun _ _ => rfl)) pe_int) pe_int) pa_nil)) pe_int) (pg_sub (pv 0) pe_int set_list))
      (pss_one (ps_ret (pe_op op_mod (pe_callTy call_int1 (by rfl) T.int (by decide +kernel) (pa_cons (pe_op op_fdivX (pe_ix (ixL c.K rfl) (pv 0) pe_int (fun _ _ => rfl)) pe_int) pa_nil)) (pv 1)))))), ?_⟩
    have rf : Kp c H (.ref a) (.l [.int d, .int r]) := ⟨a, _, rfl, ha, .cons (.int _) (.cons (.int _) .nil)⟩
    have r1 : Kp c H (.int n) (.d (.int n)) := Fp.int _
    have dv : ∀ i, CDivX i n := fun i => ⟨by omega, by
      have := log2_lt (j := n) (n := 60) (by decide) (by have : n.natAbs < 2 ^ 60 := by omega
                                                         exact this)
      omega⟩
    have hmod : ∀ i : Int, 0 ≤ i % n ∧ i % n < n := fun i => ⟨Int.emod_nonneg _ (by omega), Int.emod_lt_of_pos _ hn⟩
    refine n_ifE (b := decide ((0 : Int) < d)) (et_test (ev_B0 (g := fun i j => decide (j < i)) (ev_ixL (ev_var rfl rf) ev_int (atI_nat (j := 0) rfl)) ev_int)) (fun hb H1 e1 => ?_) fun hb H1 e1 => ?_
    · have rf := rf.mono e1
      refine n_asg (ev_I (g := fun i j => i % j) (ev_int1 (ev_ixL (ev_var rfl rf) ev_int (atI_nat (j := 0) rfl))) (ev_var rfl (r1.mono e1)) hn) fun v2 H2 e2 r2 => ?_
      have e12 := e1.trans e2
      refine n_set (j := 0) rfl (e12 _ _ ha) rfl (ev_I (g := Int.fdiv) (ev_ixL (ev_var rfl (rf.mono e2)) ev_int (atI_nat (j := 0) rfl)) (ev_var rfl (r1.mono e12)) (dv _)) fun v H3 e3 rv => ?_
      rw [Fp.intE rv]
      have hF : Fx a H (upd H3 a (.lst [.int (Int.fdiv d n), .int r])) := ⟨fun b o hne q => by rw [upd_ne hne]; exact e3 _ _ (e12 _ _ q), _, _, take_d hd hn, hr0, hr1, upd_same⟩
      rw [Fp.intE r2]
      exact s_ret (c := c) (kd := .d (.int (d % n))) (ev_var rfl (Fp.int _)) fun v H4 e4 r => by
        rw [Fp.intE r]
        exact k _ H4 (hmod d).1 (hmod d).2 (hF.ex e4)
    · have rf := rf.mono e1
      refine n_set (j := 1) rfl (e1 _ _ ha) rfl (ev_I (g := fun i j => i % j) (ev_int1 (ev_I0 (g := fun i j => i + j) (ev_I (g := fun i j => i * j) (ev_ixL (ev_var rfl rf) ev_int (atI_nat (j := 1) rfl)) ev_int ?_) ev_int)) ev_int (by decide)) fun v H3 e3 rv => ?_
      · refine cmulW (a := 40) (b := 20) ?_ (by decide) (by decide) (by decide) (by decide)
        have : r.natAbs < 2 ^ 40 := by omega
        exact this
      · rw [Fp.intE rv]
        have h1 : 0 ≤ (r * 69069 + 12345) % 4294967311 := Int.emod_nonneg _ (by decide)
        have h2 : (r * 69069 + 12345) % 4294967311 < 2 ^ 40 := Int.lt_of_lt_of_le (Int.emod_lt_of_pos _ (by decide)) (by decide)
        have hF : Fx a H (upd H3 a (.lst [.int d, .int ((r * 69069 + 12345) % 4294967311)])) := ⟨fun b o hne q => by rw [upd_ne hne]; exact e3 _ _ (e1 _ _ q), _, _, hd, h1, h2, upd_same⟩
        have rf2 : Kp c (upd H3 a (.lst [.int d, .int ((r * 69069 + 12345) % 4294967311)])) (.ref a) (.l [.int d, .int ((r * 69069 + 12345) % 4294967311)]) := ⟨a, _, rfl, upd_same, .cons (.int _) (.cons (.int _) .nil)⟩
        refine s_ret (c := c) (ev_I (g := fun i j => i % j) (ev_int1 (ev_I (g := Int.fdiv) (ev_ixL (ev_var rfl rf2) ev_int (atI_nat (j := 1) rfl)) ev_int ⟨by decide, by decide +kernel⟩)) (ev_var (kd := .d (.int n)) rfl (Fp.int _)) hn) fun v H4 e4 r => ?_
        rw [Fp.intE r]
        exact k _ H4 (hmod _).1 (hmod _).2 (hF.ex e4)
theorem c_l_pick (T : Txt c mg aZ aT) (S : Src c.K mg "_law_pick" t_l_pick ["_law_feed_here", "_law_choices"]) (c_l_take : Def P w c.K mg base "_law_take" ["_law_feed_here", "_law_size"] 1 (sp_l_take c)) :
    Def P w c.K mg base "_law_pick" ["_law_feed_here", "_law_choices"] 2 (sp_l_pick c) := S.ok fun f fd F => by
  refine F.ok sc_l_pick (fun vs H Q E h => ?_) (fun cdv A outer s H vs Q E hr h => ?_)
  · obtain ⟨a, b, us, ds, rfl, _⟩ := h
    rfl
  · obtain ⟨a, b, us, ds, rfl, hf, hne, hb, hx, h0, hz, k⟩ := h
    refine ⟨_, (pss_one (ps_ret (pe_ix (ixL c.K rfl) (pv 1) (c_l_take.pe (hr.mono (by decide)) (by rfl) (pa_cons (pv 0) (pa_cons (pe_callB (kLen c.K rfl) (by rfl) T.len (by decide +kernel) (pa_cons (pv 1) pa_nil)) pa_nil))) (fun _ _ => rfl)))), ?_⟩
    have rb : Kp c H (.ref b) (.l ds) := ⟨b, us, rfl, hb, hx⟩
    refine x_ret (x_op (x_var rfl (x_call (x_cons (x_var rfl (x_cons (x_ev (ev_lenL (ev_var rfl rb)) fun v1 H1 e1 r1 => x_nil ?_)))))))
    rw [Fp.intE r1]
    have hl : 0 < ds.length := List.length_pos_iff.mpr h0
    refine ⟨a, _, rfl, hf.ex e1, by omega, by omega, fun t H2 h1 h2 x2 => ?_⟩
    obtain ⟨j, rfl⟩ : ∃ j : Nat, t = (j : Int) := ⟨t.toNat, by omega⟩
    have hj : j < ds.length := by omega
    have hx2 := (hx.mono (Tx.of e1)).mono (x2.tx (hf.ex e1))
    obtain ⟨v, hv, rv⟩ := hx2.at_ (List.getElem?_eq_getElem hj)
    exact ⟨b, us, (j : Int), v, rfl, rfl, SqL.of (x2.om b _ hne (e1 _ _ hb)), atI_nat hv, k _ v H2 (List.getElem_mem hj) ((Fx.of hf e1).trans x2) rv⟩
/-- take(feed, n), the feed a name's -/
theorem x_take {σ : L2.St} {H : Hp} {Q : VK} {a : Addr} {i : Nat} {n : Int} {E : XK} (hi : σ[i]? = some (some (.ref a))) (fd : Fd H a) (h0 : 0 < n) (hz : n < 2 ^ 60) (k : ∀ t H', 0 ≤ t → t < n → Fx a H H' → Q (.int t) H') : tCall (sp_l_take c) [] E (tCons (tVar i) (tCons (tC (.int n)) tNil)) σ H Q :=
  x_call (x_cons (x_var hi (x_cons (x_c (x_nil ⟨a, n, rfl, fd, h0, hz, k⟩)))))
theorem x_addI {σ : L2.St} {H : Hp} {Q : VK} {ta : TE} {i : Int} (h : ta σ H fun x H1 => ∃ j, x = .int j ∧ Q (.int (i + j)) H1) : tOp (rI0 fun i j => .int (i + j)) (tC (.int i)) ta σ H Q := by
  refine x_op (x_c ?_)
  have m : (fun y H2 => (rI0 fun i j => .int (i + j)) (.int i) y H2 Q) = fun x H1 => ∃ j, x = .int j ∧ Q (.int (i + j)) H1 := by
    funext y H2
    exact propext ⟨fun ⟨i', j, h1, h2, q⟩ => by cases h1; exact ⟨j, h2, q⟩, fun ⟨j, h2, q⟩ => ⟨i, j, rfl, h2, q⟩⟩
  rw [m]
  exact h
theorem c_l_some_number (T : Txt c mg aZ aT) (S : Src c.K mg "_law_some_number" t_l_some_number ["_law_feed_here"]) (c_l_pick : Def P w c.K mg base "_law_pick" ["_law_feed_here", "_law_choices"] 2 (sp_l_pick c)) (c_l_number : Def P w c.K mg base "_law_number" ["_law_top", "_law_bottom"] 2 (spF c R_l_number)) (c_l_take : Def P w c.K mg base "_law_take" ["_law_feed_here", "_law_size"] 1 (sp_l_take c)) :
    Def P w c.K mg base "_law_some_number" ["_law_feed_here"] 3 (sp_l_some_number c) := S.ok fun f fd F => by
  refine F.ok sc_l_some_number (fun vs H Q E h => ?_) (fun cdv A outer s H vs Q E hr h => ?_)
  · obtain ⟨a, rfl, _⟩ := h
    rfl
  · obtain ⟨a, rfl, hf, k⟩ := h
    refine ⟨_, (pss_cons (ps_set (i := 1) sc_l_some_number.nd rfl (Or.inl rfl) (c_l_pick.pe (hr.mono (by decide)) (by rfl) (pa_cons (pv 0) (pa_cons (pe_lst (pa_cons pe_int (pa_cons pe_int (pa_cons pe_int (pa_cons pe_int (pa_cons pe_int (pa_cons pe_int (pa_cons pe_int (pa_cons (pe_un un_neg pe_int) (pa_cons (pe_un un_neg pe_int) (pa_cons pe_int (pa_cons (pe_op op_sub (c_l_take.pe (hr.mono (by decide)) (by rfl) (pa_cons (pv 0) (pa_cons pe_int pa_nil))) pe_int) pa_nil)))))))))))) pa_nil))))
      (pss_one (ps_ret (c_l_number.pe (hr.mono (by decide)) (by rfl) (pa_cons (pv 1) (pa_cons (pe_op op_add pe_int (c_l_take.pe (hr.mono (by decide)) (by rfl) (pa_cons (pv 0) (pa_cons pe_int pa_nil)))) pa_nil)))))), ?_⟩
    refine n_xasg (x_call (x_cons (x_var rfl (x_cons (x_lst (x_cons (x_c (x_cons (x_c (x_cons (x_c (x_cons (x_c (x_cons (x_c (x_cons (x_c (x_cons (x_c (x_cons (x_neg (x_cons (x_neg (x_cons (x_c (x_cons (x_op (x_take rfl hf (by decide) (by decide) fun t H1 t0 t1 x1 => x_c ⟨t, 20, rfl, rfl, x_nil ⟨by show 11 ≤ sizeLine; decide, fun p hp => x_nil ?_⟩⟩))))))))))))))))))))))))))))
    have hne := x1.fd.ne hp
    refine ⟨a, p, _, [.int 0, .int 0, .int 1, .int 2, .int 3, .int 5, .int 8, .int (-1), .int (-4), .int 10, .int (t - 20)], rfl, x1.fd.ex (Ex.new hp), hne, upd_same, ?_, by simp, Nat.le_of_ble_eq_true rfl, fun d v H2 hd x2 rv => ?_⟩
    · exact .cons (.int _) (.cons (.int _) (.cons (.int _) (.cons (.int _) (.cons (.int _) (.cons (.int _) (.cons (.int _) (.cons (.int _) (.cons (.int _) (.cons (.int _) (.cons (.int _) .nil))))))))))
    · have X2 : Fx a H H2 := (x1.ex (Ex.new hp)).trans x2
      obtain ⟨i, rfl, hi⟩ : ∃ i : Int, d = .int i ∧ i.natAbs < 2 ^ 5 := by
        simp only [List.mem_cons, List.not_mem_nil, or_false] at hd
        rcases hd with h | h | h | h | h | h | h | h | h | h | h <;> exact ⟨_, h, by omega⟩
      rw [Fp.intE rv]
      refine x_ret (x_call (x_cons (x_var rfl (x_cons (x_addI (x_take rfl X2.fd (by decide) (by decide) fun u H3 u0 u1 x3 => ⟨u, rfl, x_nil ?_⟩))))))
      have hb : (1 + u) ≠ 0 := by omega
      have hu : (1 + u).natAbs < 2 ^ 5 := by omega
      exact ⟨_, _, .cons (show Kp c H3 (.int i) (.d (.int i)) from Fp.int _) (.cons (show Kp c H3 (.int (1 + u)) (.d (.int (1 + u))) from Fp.int _) .nil), ⟨i, 1 + u, rfl, hb, big_mono hi (by decide), big_mono hu (by decide), rfl⟩, fun v H4 e4 r => k _ v H4 (divInt_ht hb hi hu) ((X2.trans x3).ex e4) r⟩
end
end K66
set_option Elab.async false
set_option linter.all false
set_option autoImplicit false
set_option maxRecDepth 100000
set_option maxHeartbeats 4000000
/-! KL3: rates and nodes from the feed. -/
namespace K66
open PySem PySem.Spec PyProof.Rows L2
open Evl (Ex EvT)
/-- whole numbers, and fractions, as the program writes them -/
def ri (i : Int) : Rat := ⟨i, 1, by decide, Nat.coprime_one_right _⟩
theorem ri_ht {i : Int} {n : Nat} (h : i.natAbs < 2 ^ n) (hn : 0 < n) : Ht n (ri i) := ⟨h, Nat.one_lt_two_pow (by omega)⟩
structure RtS (low high : Option Rat) : Prop where
  lo : ∀ l, low = some l → Ht 4 l
  hi : ∀ h, high = some h → Ht 4 h
  le : ∀ l h, low = some l → high = some h → ¬ h < l
/-- nodes as the law makes them, ahead of the needless ones' being left out -/
structure Raw (f : List Nd) : Prop where
  srt : Srt f
  len : f.length ≤ 5
  x : ∀ n ∈ f, Ht 7 n.x
  k : ∀ n ∈ f, Ht 3 n.k
  s : ∀ n ∈ f, Ht 81 n.s
  v : ∀ n ∈ f, Ht 100 n.v
section
variable {c : Cv} {σ : L2.St} {H : Hp} {ta tb te : TE} {tr : TA} {Q : VK} {D : Ends} {kd : KD} {tw tu : TS} {a : Addr}
theorem x_evF {ds : List PyData} (h : EvF c te σ H ds) (k : ∀ p vs H1, H p = none → Ex H H1 → H1 p = some (.lst vs) → FpAll c.K H1 vs ds → Q (.ref p) H1) : te σ H Q := h H (Ex.refl H) Q k
theorem n_xapp {i : Nat} {l : Addr} {vs : List V} (hi : σ[i]? = some (some (.ref l))) (hl : H l = some (.lst vs)) (h : te σ H fun v H1 => rAppend (.ref l) [v] H1 fun _ H2 => tw D σ H2) : tSeq (tDrop (tBM c.K "list" rAppend (tVar i) (tCons te tNil))) tw D σ H :=
  ⟨.ref l, hi, Or.inl ⟨rfl, vs, SqL.of hl⟩, h⟩
/-- for i in range(1 + take(feed, n)) -/
theorem n_forTake {i k m : Nat} {n : Int} {E : XK} (hi : σ[k]? = some (some (.ref a))) (hm : σ[m]? = some (some (.int n))) (fd : Fd H a) (h0 : 0 < n) (hz : n < 2 ^ 40)
    (q : ∀ (t : Nat) H1, (t : Int) < n → Fx a H H1 → ∃ Pv : Nat → L2.St → Hp → Prop, Pv 0 σ H1 ∧ (∀ j σ' H', j < t + 1 → Pv j σ' H' → tu { D with nx := Pv (j + 1), ct := Pv (j + 1), bk := tw D } (σ'.set i (some (.int (j : Int)))) H') ∧ ∀ σ' H', Pv (t + 1) σ' H' → tw D σ' H') :
    tSeq (tFor (iRng1 (tCons (tOp (rI0 fun i j => .int (i + j)) (tC (.int 1)) (tCall (sp_l_take c) [] E (tCons (tVar k) (tCons (tVar m) tNil)))) tNil)) (gName i) tu) tw D σ H := by
  refine ⟨.ref a, hi, .int n, hm, a, n, rfl, fd, h0, Int.lt_of_lt_of_le hz (by decide), fun t H1 t0 t1 x1 => ⟨1, t, rfl, rfl, 1 + t, rfl, by omega, by omega, ?_⟩⟩
  obtain ⟨t, rfl⟩ : ∃ j : Nat, t = (j : Int) := ⟨t.toNat, by omega⟩
  obtain ⟨Pv, p0, ps, pd⟩ := q t H1 t1 x1
  have e : (1 + (t : Int)).toNat = t + 1 := by omega
  rw [e]
  refine for_range (D := { D with nx := tw D }) Pv p0 (fun j σ' H' hj P => ?_) pd
  have z : (0 : Int) + (j : Int) = (j : Int) := Int.zero_add _
  rw [z]
  exact ps j σ' H' hj P
/-- for i in range(n) -/
theorem s_forRng {i n : Nat} (h : EvK c te σ H (.d (.int (n : Int)))) (hz : n < 2 ^ 40)
    (q : ∀ H1, Ex H H1 → ∃ Pv : Nat → L2.St → Hp → Prop, Pv 0 σ H1 ∧ (∀ j σ' H', j < n → Pv j σ' H' → tu { D with nx := Pv (j + 1), ct := Pv (j + 1), bk := D.nx } (σ'.set i (some (.int (j : Int)))) H') ∧ ∀ σ' H', Pv n σ' H' → D.nx σ' H') :
    tFor (iRng1 (tCons te tNil)) (gName i) tu D σ H := h H (Ex.refl H) _ fun v H1 e1 r => by
  obtain ⟨Pv, p0, ps, pd⟩ := q H1 e1
  refine ⟨(n : Int), by rw [Fp.intE r], by omega, by omega, ?_⟩
  rw [Int.toNat_natCast]
  refine for_range Pv p0 (fun j σ' H' hj P => ?_) pd
  have z : (0 : Int) + (j : Int) = (j : Int) := Int.zero_add _
  rw [z]
  exact ps j σ' H' hj P
theorem n_forRng {i n : Nat} (h : EvK c te σ H (.d (.int (n : Int)))) (hz : n < 2 ^ 40)
    (q : ∀ H1, Ex H H1 → ∃ Pv : Nat → L2.St → Hp → Prop, Pv 0 σ H1 ∧ (∀ j σ' H', j < n → Pv j σ' H' → tu { D with nx := Pv (j + 1), ct := Pv (j + 1), bk := tw D } (σ'.set i (some (.int (j : Int)))) H') ∧ ∀ σ' H', Pv n σ' H' → tw D σ' H') :
    tSeq (tFor (iRng1 (tCons te tNil)) (gName i) tu) tw D σ H := s_forRng (D := { D with nx := tw D }) h hz q
/-- take(feed, n) == 0 as a test -/
theorem x_takeEq {i : Nat} {n : Int} {E : XK} {K : Bool → Hp → Prop} (hi : σ[i]? = some (some (.ref a))) (fd : Fd H a) (h0 : 0 < n) (hz : n < 2 ^ 60) (k : ∀ b H', Fx a H H' → K b H') :
    tTest (tOp (rEqD c.K) (tCall (sp_l_take c) [] E (tCons (tVar i) (tCons (tC (.int n)) tNil))) (tC (.int 0))) σ H K := by
  refine x_op (x_take hi fd h0 hz fun t H1 t0 t1 x1 => ?_)
  exact ⟨.int t, .int 0, .int t, .int 0, rfl, rfl, _, rfl, k _ H1 x1⟩
end
section
variable {P : Program} {w : World} {c : Cv} {mg : Str → Option Value} {base : Heap} {aZ aT : Addr}
def sp_l_rates (c : Cv) : Sp := fun vs H Q _ => ∃ a : Addr, vs = [.ref a] ∧ Fd H a ∧ ∀ low high p us H', RtS low high → Fx a H H' → H' p = some (.lst us) → FpAll c.K H' us [optD low, optD high] → Q (.ref p) H'
def sp_l_few (c : Cv) : Sp := fun vs H Q _ => ∃ (a : Addr) (m : Int), vs = [.ref a, .int m] ∧ Fd H a ∧ 0 < m ∧ m ≤ 5 ∧ ∀ raw v H', Raw raw → Fx a H H' → Kp c H' v (.l ((mkC raw).map nodeD)) → Q v H'
def half (i : Int) (d : Nat) (h : d ≠ 0) (r : i.natAbs.Coprime d) : Rat := ⟨i, d, h, r⟩
theorem half_ht {i : Int} {d : Nat} {h : d ≠ 0} {r : i.natAbs.Coprime d} {n : Nat} (h1 : i.natAbs < 2 ^ n) (h2 : d < 2 ^ n) : Ht n (half i d h r) := ⟨h1, h2⟩
theorem c_l_rates (T : Txt c mg aZ aT) (S : Src c.K mg "_law_rates" t_l_rates ["_law_feed_here"]) (c_l_pick : Def P w c.K mg base "_law_pick" ["_law_feed_here", "_law_choices"] 2 (sp_l_pick c)) (c_l_less : Def P w c.K mg base "_law_less" ["_law_first", "_law_second"] 1 (spF c R_l_less)) (c_l_take : Def P w c.K mg base "_law_take" ["_law_feed_here", "_law_size"] 1 (sp_l_take c)) :
    Def P w c.K mg base "_law_rates" ["_law_feed_here"] 3 (sp_l_rates c) := S.ok fun f fd F => by
  refine F.ok sc_l_rates (fun vs H Q E h => ?_) (fun cdv A outer s H vs Q E hr h => ?_)
  · obtain ⟨a, rfl, _⟩ := h
    rfl
  · obtain ⟨a, rfl, hf, k⟩ := h
    refine ⟨_, (pss_cons (ps_set (i := 1) sc_l_rates.nd rfl (Or.inl rfl) (pe_lst (pa_cons pe_non (pa_cons pe_non (pa_cons (pe_tup (pa_cons pe_int (pa_cons pe_int pa_nil))) (pa_cons (pe_tup (pa_cons pe_int (pa_cons pe_int pa_nil))) (pa_cons (pe_tup (pa_cons (pe_un un_neg pe_int) (pa_cons pe_int pa_nil))) (pa_cons (pe_tup (pa_cons pe_int (pa_cons pe_int pa_nil))) (pa_cons (pe_tup (pa_cons pe_int (pa_cons pe_int pa_nil))) (pa_cons (pe_tup (pa_cons (pe_un un_neg pe_int) (pa_cons pe_int pa_nil))) (pa_cons (pe_tup (pa_cons pe_int (pa_cons pe_int pa_nil))) (pa_cons (pe_tup (pa_cons pe_int (pa_cons pe_int pa_nil))) (pa_cons (pe_tup (pa_cons pe_int (pa_cons pe_int pa_nil))) pa_nil)))))))))))))
      (pss_cons (ps_expr (pe_bm PySem.F.plainAttrs_list PySem.F.slot_list_append PySem.F.type_list_append mt_append (pv 1) (pa_cons (pe_tup (pa_cons (pe_op op_sub (c_l_take.pe (hr.mono (by decide)) (by rfl) (pa_cons (pv 0) (pa_cons pe_int pa_nil))) pe_int) (pa_cons pe_int pa_nil))) pa_nil)))
      (pss_cons (ps_par (i := 2) (j := 3) (by rfl) sc_l_rates.nd rfl rfl (by decide) rfl rfl (pa_cons (c_l_pick.pe (hr.mono (by decide)) (by rfl) (pa_cons (pv 0) (pa_cons (pv 1) pa_nil))) (pa_cons (c_l_pick.pe (hr.mono (by decide)) (by rfl) (pa_cons (pv 0) (pa_cons (pv 1) pa_nil))) pa_nil)) (by rfl))
      (pss_cons (ps_if (PW.pt (pw_and (pt_cmpR op_notN (pv 2) pe_non (nomark _)) (pw_and (pt_cmpR op_notN (pv 3) pe_non (nomark _)) (pw_and1 (pt_val (c_l_less.pe (hr.mono (by decide)) (by rfl) (pa_cons (pv 3) (pa_cons (pv 2) pa_nil)))))))) (pss_one (ps_ret (pe_lst (pa_cons (pv 3) (pa_cons (pv 2) pa_nil))))) pss_nil)
      (pss_one (ps_ret (pe_lst (pa_cons (pv 2) (pa_cons (pv 3) pa_nil))))))))), ?_⟩
    have tp : ∀ {σ : L2.St} {H : Hp} (i j : Int), EvK c (tTup (tCons (tC (.int i)) (tCons (tC (.int j)) tNil))) σ H (.d (.tuple [.int i, .int j])) := fun i j => ev_tup (ed_cons ev_int (ed_cons ev_int ed_nil))
    have tn : ∀ {σ : L2.St} {H : Hp} (i j : Int), EvK c (tTup (tCons (tUn (rU fun i => .int (-i)) (tC (.int i))) (tCons (tC (.int j)) tNil))) σ H (.d (.tuple [.int (-i), .int j])) := fun i j => ev_tup (ed_cons (ev_neg ev_int) (ed_cons ev_int ed_nil))
    refine n_asgF (c := c) (ds := ([none, none, some (ri 0), some (ri 1), some (ri (-1)), some (half 1 2 (by decide) (by decide)), some (ri 2), some (ri (-3)), some (half 5 2 (by decide) (by decide)), some (half 1 3 (by decide) (by decide)), some (half 3 10 (by decide) (by decide))] : List (Option Rat)).map optD) (ef_lst (ed_cons ev_non (ed_cons ev_non (ed_cons (tp 0 1) (ed_cons (tp 1 1) (ed_cons (tn 1 1) (ed_cons (tp 1 2) (ed_cons (tp 2 1) (ed_cons (tn 3 1) (ed_cons (tp 5 2) (ed_cons (tp 1 3) (ed_cons (tp 3 10) ed_nil)))))))))))) fun l vs H1 hl0 e1 hl1 rl => ?_
    have hne := hf.ne hl0
    refine n_xapp rfl hl1 (x_tup (x_cons (x_op (x_take rfl (hf.ex e1) (by decide) (by decide) fun t H2 t0 t1 x2 => x_c ⟨t, 4, rfl, rfl, x_cons (x_c (x_nil ⟨Nat.le_of_ble_eq_true rfl, fun p hp => ?_⟩))⟩))))
    have e3 : Ex H2 (upd H2 p (.tup [.int (t - 4), .int 1])) := Ex.new hp
    have l3 : upd H2 p (.tup [.int (t - 4), .int 1]) l = some (.lst vs) := e3 _ _ (x2.om _ _ hne hl1)
    have lenv := rl.length
    refine ⟨l, vs, .ref p, rfl, rfl, l3, by rw [lenv]; decide, ?_⟩
    have X3 : Fx a H (upd H2 p (.tup [.int (t - 4), .int 1])) := ((Fx.of hf e1).trans x2).ex e3
    have rl2 : FpAll c.K (upd H2 p (.tup [.int (t - 4), .int 1])) vs _ := (rl.mono (x2.tx (hf.ex e1))).mono (Tx.of e3)
    have rp : Fp c.K (upd H2 p (.tup [.int (t - 4), .int 1])) (.ref p) (optD (some (ri (t - 4)))) := .tup (SqT.of upd_same) (.cons (.int _) (.cons (.int _) .nil))
    generalize hH3 : upd H2 p (.tup [.int (t - 4), .int 1]) = H3 at X3 rl2 rp l3
    have tx4 : Tx H3 (upd H3 l (.lst (vs ++ [.ref p]))) := Tx.upd l3
    have X4 : Fx a H (upd H3 l (.lst (vs ++ [.ref p]))) := X3.mut hf hl0
    have L4 : upd H3 l (.lst (vs ++ [.ref p])) l = some (.lst (vs ++ [.ref p])) := upd_same
    have R4 : FpAll c.K (upd H3 l (.lst (vs ++ [.ref p]))) (vs ++ [.ref p]) (([none, none, some (ri 0), some (ri 1), some (ri (-1)), some (half 1 2 (by decide) (by decide)), some (ri 2), some (ri (-3)), some (half 5 2 (by decide) (by decide)), some (half 1 3 (by decide) (by decide)), some (half 3 10 (by decide) (by decide)), some (ri (t - 4))] : List (Option Rat)).map optD) := (rl2.mono tx4).append (.cons (rp.mono tx4) .nil)
    have hO : ∀ o ∈ ([none, none, some (ri 0), some (ri 1), some (ri (-1)), some (half 1 2 (by decide) (by decide)), some (ri 2), some (ri (-3)), some (half 5 2 (by decide) (by decide)), some (half 1 3 (by decide) (by decide)), some (half 3 10 (by decide) (by decide)), some (ri (t - 4))] : List (Option Rat)), ∀ q, o = some q → Ht 4 q := by
      intro o ho q hq
      subst hq
      simp only [List.mem_cons, List.not_mem_nil, or_false, Option.some.injEq, reduceCtorEq, false_or] at ho
      rcases ho with h | h | h | h | h | h | h | h | h | h <;> subst h <;> first | exact ri_ht (by omega) (by decide) | exact half_ht (by decide) (by decide)
    generalize ([none, none, some (ri 0), some (ri 1), some (ri (-1)), some (half 1 2 (by decide) (by decide)), some (ri 2), some (ri (-3)), some (half 5 2 (by decide) (by decide)), some (half 1 3 (by decide) (by decide)), some (half 3 10 (by decide) (by decide)), some (ri (t - 4))] : List (Option Rat)) = os at R4 hO
    have hos : os.length = 12 := by
      have := R4.length
      rw [List.length_append, lenv, List.length_map] at this
      simpa using this.symm
    generalize upd H3 l (.lst (vs ++ [.ref p])) = H4 at X4 L4 R4
    generalize vs ++ [V.ref p] = us at L4 R4
    have ds0 : os.map optD ≠ [] := by
      intro z
      rw [List.map_eq_nil_iff.mp z] at hos
      cases hos
    refine n_xpar (x_call (x_cons (x_var rfl (x_cons (x_var rfl (x_nil ⟨a, l, us, os.map optD, rfl, X4.fd, hne, L4, R4, ds0, by rw [List.length_map]; omega, fun d1 v1 H5 m1 x5 r1 => x_call (x_cons (x_var rfl (x_cons (x_var rfl (x_nil ⟨a, l, us, os.map optD, rfl, x5.fd, hne, x5.om _ _ hne L4, R4.mono (x5.tx X4.fd), ds0, by rw [List.length_map]; omega, fun d2 v2 H6 m2 x6 r2 => ?_⟩)))))⟩))))))
    obtain ⟨low, ml, rfl⟩ := List.mem_map.mp m1
    obtain ⟨high, mh, rfl⟩ := List.mem_map.mp m2
    have X6 := (X4.trans x5).trans x6
    have r1 : Kp c H6 v1 (.d (optD low)) := r1.mono (x6.tx x5.fd)
    have r2 : Kp c H6 v2 (.d (optD high)) := r2
    have hlo := hO low ml
    have hhi := hO high mh
    refine n_ifE (b := optB low fun l => optB high fun h => decide (h < l)) (et_opt (o := low) (f := fun l => optB high fun h => decide (h < l)) (ev_var rfl r1) fun l hl => et_opt (o := high) (f := fun h => decide (h < l)) (ev_var rfl r2) fun h hh => et_val (c := c) ?_) (fun hb H7 e7 => ?_) fun hb H7 e7 => ?_
    · subst hl
      subst hh
      have r1 : Kp c H6 v1 (.d (numD l)) := r1
      have r2 : Kp c H6 v2 (.d (numD h)) := r2
      exact ev_call (ea_cons (ev_var rfl r2) (ea_cons (ev_var rfl r1) ea_nil)) ⟨h, l, rfl, (hhi h rfl).mono (by decide), (hlo l rfl).mono (by decide), rfl⟩
    · refine s_retF (ef_lst (ds := [optD high, optD low]) (ed_cons (ev_var rfl (r2.mono e7)) (ed_cons (ev_var rfl (r1.mono e7)) ed_nil))) fun q ws H8 hq e8 h8 r8 => ?_
      refine k high low q ws H8 ⟨hhi, hlo, fun l h hl hh => ?_⟩ ((X6.ex e7).ex e8) h8 r8
      subst hl
      subst hh
      have hb : h < l → False := fun _ => by
        have hb : decide (l < h) = true := hb
        have := of_decide_eq_true hb
        grind
      exact hb
    · refine s_retF (ef_lst (ds := [optD low, optD high]) (ed_cons (ev_var rfl (r1.mono e7)) (ed_cons (ev_var rfl (r2.mono e7)) ed_nil))) fun q ws H8 hq e8 h8 r8 => ?_
      refine k low high q ws H8 ⟨hlo, hhi, fun l h hl hh => ?_⟩ ((X6.ex e7).ex e8) h8 r8
      subst hl
      subst hh
      exact of_decide_eq_false hb
end
end K66
set_option Elab.async false
set_option linter.all false
set_option autoImplicit false
set_option maxRecDepth 100000
set_option maxHeartbeats 4000000
/-! KL4: nodes from the feed. -/
namespace K66
open PySem PySem.Spec PyProof.Rows L2
open Evl (Ex EvT)
theorem xi_add {k s : Nat} {x d : Rat} (h : x = (k : Rat) / 6) (hd : d = (s : Rat) / 6) : x + d = ((k + s : Nat) : Rat) / 6 := by
  rw [h, hd, Rat.natCast_add]
  grind
theorem xi_ht {k : Nat} {x : Rat} (h : x = (k : Rat) / 6) (hk : k ≤ 120) : Ht 7 x := by
  have e : x = Rat.divInt (k : Int) 6 := by
    rw [h, Rat.divInt_eq_div]
    rfl
  rw [e]
  exact divInt_ht (by decide) (by omega) (by decide)
theorem xi_pos {s : Nat} (h : 0 < s) : (0 : Rat) < (s : Rat) / 6 := by
  have : (0 : Rat) < (s : Rat) := by exact_mod_cast h
  grind
/-- nodes made so far: j of them, the last one at x -/
structure RawI (raw : List Nd) (j : Nat) (x : Rat) : Prop where
  len : raw.length = j
  srt : raw ≠ [] → Srt raw
  last : ∀ n, raw.getLast? = some n → n.x = x
  zero : j = 0 → x = 0
  xi : ∃ k : Nat, k ≤ 30 * (j - 1) ∧ x = (k : Rat) / 6
  b : ∀ n ∈ raw, Ht 7 n.x ∧ Ht 3 n.k ∧ Ht (19 * j - 14) n.s ∧ Ht 100 n.v
theorem srt_snoc {l : List Nd} {n m : Nd} (h : Srt l) (hl : l.getLast? = some n) (hx : n.x < m.x) : Srt (l ++ [m]) := by
  cases l with
  | nil => exact absurd h id
  | cons a t =>
    refine ⟨h.1, ?_⟩
    show ((a :: t) ++ [m]).Pairwise _
    refine List.pairwise_append.mpr ⟨h.2, List.pairwise_singleton .., fun b hb c hc => ?_⟩
    rw [List.mem_singleton.mp hc]
    obtain ⟨i, hi, e⟩ := List.getElem_of_mem hb
    have hne : (a :: t) ≠ [] := List.cons_ne_nil _ _
    have hlast : (a :: t)[(a :: t).length - 1]? = some n := by rw [← List.getLast?_eq_getElem?]; exact hl
    have hn : (a :: t).length - 1 < (a :: t).length := by simp
    rw [List.getElem?_eq_getElem hn] at hlast
    have hlast := Option.some.inj hlast
    by_cases q : i = (a :: t).length - 1
    · subst q
      rw [hlast] at e
      rw [← e]
      exact hx
    · have := (List.pairwise_iff_getElem.mp h.2) i ((a :: t).length - 1) hi hn (by omega)
      rw [hlast, e] at this
      grind
theorem RawI.snoc {raw : List Nd} {j : Nat} {x0 : Rat} {m : Nd} (h : RawI raw j x0) (hk : ∃ k : Nat, k ≤ 30 * j ∧ m.x = (k : Rat) / 6) (hj : j ≤ 4) (h0 : j = 0 → m.x = 0) (hx : ∀ n, raw.getLast? = some n → n.x < m.x)
    (hkk : Ht 3 m.k) (hs : Ht (19 * (j + 1) - 14) m.s) (hv : Ht 100 m.v) : RawI (raw ++ [m]) (j + 1) m.x := by
  refine ⟨by rw [List.length_append, h.len]; rfl, fun _ => ?_, fun n hn => ?_, fun z => by omega, by obtain ⟨k, h1, h2⟩ := hk; exact ⟨k, by omega, h2⟩, fun n hn => ?_⟩
  · cases hr : raw.getLast? with
    | none =>
      have e := List.getLast?_eq_none_iff.mp hr
      rw [e]
      have hj0 : j = 0 := by
        have := h.len
        rw [e] at this
        exact this.symm
      exact ⟨h0 hj0, List.pairwise_singleton ..⟩
    | some n =>
      refine srt_snoc (h.srt fun z => ?_) hr (hx n hr)
      rw [z] at hr
      cases hr
  · rw [List.getLast?_append] at hn
    simp at hn
    rw [← hn]
  · rcases List.mem_append.mp hn with q | q
    · obtain ⟨h1, h2, h3, h4⟩ := h.b n q
      exact ⟨h1, h2, h3.mono (by omega), h4⟩
    · rw [List.mem_singleton.mp q]
      obtain ⟨k, h1, h2⟩ := hk
      exact ⟨xi_ht h2 (by omega), hkk, hs, hv⟩
section
variable {c : Cv} {σ : L2.St} {H : Hp} {ta tb te t1 : TE} {rest : TA} {Q : VK} {D : Ends} {kd : KD} {tw tu : TS} {t u : TT} {a : Addr}
theorem x_pre {H0 : Hp} {ds : List PyData} {vs : List V} {d : PyData} {K : List V → Hp → Prop} (e0 : Ex H0 H) (acc : FpAll c.K H vs ds) (h : EvK c t1 σ H0 (.d d)) (k : ∀ v H1, Ex H0 H1 → FpAll c.K H1 (vs ++ [v]) (ds ++ [d]) → rest σ H1 fun ws H2 => K (v :: ws) H2) : tCons t1 rest σ H K :=
  h H e0 _ fun v H1 e r => k v H1 (e0.trans e) ((acc.mono (Tx.of e)).append (.cons r .nil))
theorem n_xif (h : t σ H fun b H1 => if b = true then tu { D with nx := tw D } σ H1 else tw D σ H1) : tSeq (tIfS t tu tNext) tw D σ H := h
theorem x_and {b : Bool} {K : Bool → Hp → Prop} (h : EvT t σ H b) (k1 : b = true → ∀ H1, Ex H H1 → u σ H1 K) (k2 : b = false → ∀ H1, Ex H H1 → K false H1) : tAnd t u σ H K := h H (Ex.refl H) _ fun H1 e => by
  cases b with
  | true => exact k1 rfl H1 e
  | false => exact k2 rfl H1 e
end
section
variable {P : Program} {w : World} {c : Cv} {mg : Str → Option Value} {base : Heap} {aZ aT : Addr}
/-- what is kept of the nodes made so far -/
structure Bag (c : Cv) (a l : Addr) (acc : List V) (raw : List Nd) (H0 H : Hp) : Prop where
  fx : Fx a H0 H
  ls : H l = some (.lst acc)
  al : FpAll c.K H acc (raw.map nodeD)
theorem Bag.step {a l : Addr} {acc : List V} {raw : List Nd} {H0 H H' : Hp} (b : Bag c a l acc raw H0 H) (hn : l ≠ a) (x : Fx a H H') : Bag c a l acc raw H0 H' := ⟨b.fx.trans x, x.om _ _ hn b.ls, b.al.mono (x.tx b.fx.fd)⟩
theorem Kp.fx {a : Addr} {H H' : Hp} {v : V} {d : PyData} (h : Kp c H v (.d d)) (fd : Fd H a) (x : Fx a H H') : Kp c H' v (.d d) := Fp.mono (x.tx fd) h
theorem steps_k {σ : L2.St} {H : Hp} {te : TE} {i : Int} {d : Nat} (s : Nat) (q : Rat) (h : (s : Rat) / 6 = q) (ht : EvK c te σ H (.d (.tuple [.int i, .int (d : Int)]))) (hn : numD q = .tuple [.int i, .int (d : Int)] := by rfl) : EvK c te σ H (.d (numD ((s : Rat) / 6))) := by
  rw [h, hn]
  exact ht
theorem c_l_few (T : Txt c mg aZ aT) (S : Src c.K mg "_law_few" t_l_few ["_law_feed_here", "_law_most_here"]) (c_l_needed : Def P w c.K mg base "_law_needed" ["_law_nodes"] 5 (spF c R_l_needed)) (c_l_pick : Def P w c.K mg base "_law_pick" ["_law_feed_here", "_law_choices"] 2 (sp_l_pick c)) (c_l_take : Def P w c.K mg base "_law_take" ["_law_feed_here", "_law_size"] 1 (sp_l_take c)) (c_l_plus : Def P w c.K mg base "_law_plus" ["_law_first", "_law_second"] 3 (spF c R_l_plus)) (c_l_some_number : Def P w c.K mg base "_law_some_number" ["_law_feed_here"] 3 (sp_l_some_number c)) (c_l_line : Def P w c.K mg base "_law_line" ["_law_node", "_law_x"] 4 (spF c R_l_line)) :
    Def P w c.K mg base "_law_few" ["_law_feed_here", "_law_most_here"] 6 (sp_l_few c) := S.ok fun f fd F => by
  refine F.ok sc_l_few (fun vs H Q E h => ?_) (fun cdv A outer s H vs Q E hr h => ?_)
  · obtain ⟨a, m, rfl, _⟩ := h
    rfl
  · obtain ⟨a, m, rfl, hf, hm0, hm1, k⟩ := h
    refine ⟨_, (pss_cons (ps_par (i := 2) (j := 3) (by rfl) sc_l_few.nd rfl rfl (by decide) rfl rfl (pa_cons (pe_tup (pa_cons pe_int (pa_cons pe_int pa_nil))) (pa_cons (pe_lst pa_nil) pa_nil)) (by rfl))
      (pss_cons (ps_for PassesOwn.never rfl (pi_range1 (by rfl) T.range (pa_cons (pe_op op_add pe_int (c_l_take.pe (hr.mono (by decide)) (by rfl) (pa_cons (pv 0) (pa_cons (pv 1) pa_nil)))) pa_nil)) (pg_name (i := 4) sc_l_few.nd rfl (Or.inl rfl)) (pss_cons (ps_if (pt_cmpR (oNeD c.K rfl hr.units) (pv 3) (pe_lst pa_nil) (nomark _)) (pss_one (ps_set (i := 2) sc_l_few.nd rfl (Or.inl rfl) (c_l_plus.pe (hr.mono (by decide)) (by rfl) (pa_cons (pv 2) (pa_cons (c_l_pick.pe (hr.mono (by decide)) (by rfl) (pa_cons (pv 0) (pa_cons (pe_lst (pa_cons (pe_tup (pa_cons pe_int (pa_cons pe_int pa_nil))) (pa_cons (pe_tup (pa_cons pe_int (pa_cons pe_int pa_nil))) (pa_cons (pe_tup (pa_cons pe_int (pa_cons pe_int pa_nil))) (pa_cons (pe_tup (pa_cons pe_int (pa_cons pe_int pa_nil))) (pa_cons (pe_tup (pa_cons pe_int (pa_cons pe_int pa_nil))) (pa_cons (pe_tup (pa_cons pe_int (pa_cons pe_int pa_nil))) pa_nil))))))) pa_nil))) pa_nil))))) pss_nil)
      (pss_cons (ps_par (i := 5) (j := 6) (by rfl) sc_l_few.nd rfl rfl (by decide) rfl rfl (pa_cons (c_l_some_number.pe (hr.mono (by decide)) (by rfl) (pa_cons (pv 0) pa_nil)) (pa_cons (c_l_some_number.pe (hr.mono (by decide)) (by rfl) (pa_cons (pv 0) pa_nil)) pa_nil)) (by rfl))
      (pss_cons (ps_set (i := 7) sc_l_few.nd rfl (Or.inl rfl) (pe_lst (pa_cons (pe_tup (pa_cons pe_int (pa_cons pe_int pa_nil))) (pa_cons (pe_tup (pa_cons pe_int (pa_cons pe_int pa_nil))) (pa_cons (pe_tup (pa_cons pe_int (pa_cons pe_int pa_nil))) (pa_cons (pe_tup (pa_cons (pe_un un_neg pe_int) (pa_cons pe_int pa_nil))) (pa_cons (pe_tup (pa_cons pe_int (pa_cons pe_int pa_nil))) (pa_cons (pe_tup (pa_cons pe_int (pa_cons pe_int pa_nil))) (pa_cons (pe_tup (pa_cons (pe_un un_neg pe_int) (pa_cons pe_int pa_nil))) (pa_cons (pe_tup (pa_cons (pe_op op_sub (c_l_take.pe (hr.mono (by decide)) (by rfl) (pa_cons (pv 0) (pa_cons pe_int pa_nil))) pe_int) (pa_cons pe_int pa_nil))) pa_nil))))))))))
      (pss_cons (ps_set (i := 8) sc_l_few.nd rfl (Or.inl rfl) (c_l_pick.pe (hr.mono (by decide)) (by rfl) (pa_cons (pv 0) (pa_cons (pv 7) pa_nil))))
      (pss_cons (ps_if (PW.pt (pw_and (pt_cmpR (oNeD c.K rfl hr.units) (pv 3) (pe_lst pa_nil) (nomark _)) (pw_and1 (pt_cmpR (oEqD c.K rfl hr.units) (c_l_take.pe (hr.mono (by decide)) (by rfl) (pa_cons (pv 0) (pa_cons pe_int pa_nil))) pe_int (nomark _))))) (pss_one (ps_set (i := 6) sc_l_few.nd rfl (Or.inl rfl) (c_l_line.pe (hr.mono (by decide)) (by rfl) (pa_cons (pe_ix (ixL c.K rfl) (pv 3) (pe_un un_neg pe_int) (fun _ _ => rfl)) (pa_cons (pv 2) pa_nil))))) pss_nil)
      (pss_cons (ps_if (pt_cmpR (oEqD c.K rfl hr.units) (c_l_take.pe (hr.mono (by decide)) (by rfl) (pa_cons (pv 0) (pa_cons pe_int pa_nil))) pe_int (nomark _)) (pss_one (ps_set (i := 5) sc_l_few.nd rfl (Or.inl rfl) (pv 6))) pss_nil)
      (pss_cons (ps_if (pt_cmpR (oEqD c.K rfl hr.units) (c_l_take.pe (hr.mono (by decide)) (by rfl) (pa_cons (pv 0) (pa_cons pe_int pa_nil))) pe_int (nomark _)) (pss_one (ps_set (i := 5) sc_l_few.nd rfl (Or.inl rfl) (pe_tup (pa_cons (pe_un un_neg (pe_op op_pow pe_int pe_int)) (pa_cons pe_int pa_nil))))) pss_nil)
      (pss_one (ps_expr (pe_bm PySem.F.plainAttrs_list PySem.F.slot_list_append PySem.F.type_list_append mt_append (pv 3) (pa_cons (pe_tup (pa_cons (pv 2) (pa_cons (pv 5) (pa_cons (pv 6) (pa_cons (pv 8) pa_nil))))) pa_nil))))))))))))
      (pss_one (ps_ret (c_l_needed.pe (hr.mono (by decide)) (by rfl) (pa_cons (pv 3) pa_nil)))))), ?_⟩
    have tp : ∀ {σ : L2.St} {H : Hp} (i j : Int), EvK c (tTup (tCons (tC (.int i)) (tCons (tC (.int j)) tNil))) σ H (.d (.tuple [.int i, .int j])) := fun i j => ev_tup (ed_cons ev_int (ed_cons ev_int ed_nil))
    have tn : ∀ {σ : L2.St} {H : Hp} (i j : Int), EvK c (tTup (tCons (tUn (rU fun i => .int (-i)) (tC (.int i))) (tCons (tC (.int j)) tNil))) σ H (.d (.tuple [.int (-i), .int j])) := fun i j => ev_tup (ed_cons (ev_neg ev_int) (ed_cons ev_int ed_nil))
    refine n_parG (kd := .d (numD 0)) (c := c) (tp 0 1) (ef_lst ed_nil) fun v2 l vs0 H1 hl0 e1 hl1 rl r2 => ?_
    obtain rfl : vs0 = [] := by cases rl; rfl
    have hne := hf.ne hl0
    refine n_forTake rfl rfl (hf.ex e1) hm0 (by omega) fun t H2 ht x2 => ⟨fun j σ' H' => ∃ ux x acc raw w4 w5 w6 w7 w8, σ' = [some (.ref a), some (.int m), some ux, some (.ref l), w4, w5, w6, w7, w8] ∧ Bag c a l acc raw H H' ∧ Kp c H' ux (.d (numD x)) ∧ RawI raw j x, ?_, ?_, ?_⟩
    · refine ⟨v2, 0, [], [], none, none, none, none, none, rfl, ⟨(Fx.of hf e1).trans x2, x2.om _ _ hne hl1, .nil⟩, r2.fx (hf.ex e1) x2, ⟨rfl, fun z => absurd rfl z, fun n z => (by cases z), fun _ => rfl, ⟨0, by omega, by grind⟩, fun n hn => (by cases hn)⟩⟩
    · rintro j σ' H' hj ⟨ux, x0, acc, raw, w4, w5, w6, w7, w8, rfl, hb, rx, hr⟩
      have hj4 : j ≤ 4 := by omega
      have neE : ∀ {σ : L2.St} {b : Bool} {H' : Hp}, Bag c a l acc raw H H' → σ[3]? = some (some (.ref l)) → (!raw.isEmpty) = b → EvK c (tOp (rNeD c.K) (tVar 3) (tLst tNil)) σ H' (.d (.bool b)) := fun hb hσ hbb => ev_is (ev_neD (ev_var (kd := .l (raw.map nodeD)) hσ ⟨l, acc, rfl, hb.ls, hb.al⟩) (EvF.k (ef_lst ed_nil)) (.l _) (.l _) (shaped_nodes raw).1 rfl) (by
        rw [← hbb]
        cases raw <;> rfl)
      have hem : raw.isEmpty = true ↔ j = 0 := by
        rw [← hr.len]
        cases raw <;> simp
      refine n_mid (fun σ' H' => ∃ ux x, σ' = [some (.ref a), some (.int m), some ux, some (.ref l), some (.int (j : Int)), w5, w6, w7, w8] ∧ Bag c a l acc raw H H' ∧ Kp c H' ux (.d (numD x)) ∧ (∃ k : Nat, k ≤ 30 * j ∧ x = (k : Rat) / 6) ∧ (∀ n, raw.getLast? = some n → n.x < x) ∧ (j = 0 → x = 0)) ?_ fun fin => ?_
      · rintro σ' H' ⟨ux, x, rfl, hb, rx, hxi, hlt, hz⟩
        have hx7 : Ht 7 x := by
          obtain ⟨k, h1, h2⟩ := hxi
          exact xi_ht h2 (by omega)
        refine n_xpar (x_call (x_cons (x_var rfl (x_nil ⟨a, rfl, hb.fx.fd, fun qv v5 H3 hv x3 r5 => x_call (x_cons (x_var rfl (x_nil ⟨a, rfl, x3.fd, fun qs v6 H4 hs x4 r6 => ?_⟩)))⟩))))
        have r5 := r5.fx x3.fd x4
        have x34 := x3.trans x4
        have rx := rx.fx hb.fx.fd x34
        have hb := hb.step hne x34
        -- the slopes
        refine n_xasg (x_lst (x_pre (Ex.refl H4) (FpAll.nil (K := c.K)) (tp 0 1) fun s1 G1 g1 q1 => x_pre g1 q1 (tp 0 1) fun s2 G2 g2 q2 => x_pre g2 q2 (tp 1 1) fun s3 G3 g3 q3 => x_pre g3 q3 (tn 1 1) fun s4 G4 g4 q4 => x_pre g4 q4 (tp 1 2) fun s5 G5 g5 q5 => x_pre g5 q5 (tp 2 1) fun s6 G6 g6 q6 => x_pre g6 q6 (tn 3 1) fun s7 G7 g7 q7 => ?_))
        refine x_cons (x_tup (x_cons (x_op (x_take rfl (hb.fx.fd.ex g7) (by decide) (by decide) fun t H5 t0 t1 x5 => x_c ⟨t, 4, rfl, rfl, x_cons (x_c (x_nil ⟨Nat.le_of_ble_eq_true rfl, fun p hp => x_nil ⟨Nat.le_of_ble_eq_true rfl, fun p2 hp2 => ?_⟩⟩))⟩))))
        have X5 : Fx a H4 H5 := (Fx.of hb.fx.fd g7).trans x5
        have q7 := q7.mono (x5.tx (hb.fx.fd.ex g7))
        have e6 : Ex H5 (upd H5 p (.tup [.int (t - 4), .int 1])) := Ex.new hp
        have rp : Fp c.K (upd H5 p (.tup [.int (t - 4), .int 1])) (.ref p) (numD (ri (t - 4))) := .tup (SqT.of upd_same) (.cons (.int _) (.cons (.int _) .nil))
        have e7 := Ex.new (o := .lst ([s1, s2, s3, s4, s5, s6, s7, .ref p])) hp2
        have X7 : Fx a H4 _ := (X5.ex e6).ex e7
        have q8 : FpAll c.K _ [s1, s2, s3, s4, s5, s6, s7, .ref p] (([ri 0, ri 0, ri 1, ri (-1), half 1 2 (by decide) (by decide), ri 2, ri (-3), ri (t - 4)] : List Rat).map fun q => numD q) := ((q7.mono (Tx.of e6)).append (.cons rp .nil)).mono (Tx.of e7)
        have hQ : ∀ q ∈ ([ri 0, ri 0, ri 1, ri (-1), half 1 2 (by decide) (by decide), ri 2, ri (-3), ri (t - 4)] : List Rat), Ht 3 q := by
          intro q hq
          simp only [List.mem_cons, List.not_mem_nil, or_false] at hq
          rcases hq with h | h | h | h | h | h | h | h <;> subst h <;> first | exact ri_ht (by omega) (by decide) | exact half_ht (by decide) (by decide)
        have hQl : ([ri 0, ri 0, ri 1, ri (-1), half 1 2 (by decide) (by decide), ri 2, ri (-3), ri (t - 4)] : List Rat).length = 8 := rfl
        generalize ([ri 0, ri 0, ri 1, ri (-1), half 1 2 (by decide) (by decide), ri 2, ri (-3), ri (t - 4)] : List Rat) = qs8 at q8 hQ hQl
        have hne2 : p2 ≠ a := (X5.ex e6).fd.ne hp2
        have l7 : upd (upd H5 p (.tup [.int (t - 4), .int 1])) p2 (.lst [s1, s2, s3, s4, s5, s6, s7, .ref p]) p2 = some (.lst [s1, s2, s3, s4, s5, s6, s7, .ref p]) := upd_same
        show tSeq _ _ _ _ (upd (upd H5 p (.tup [.int (t - 4), .int 1])) p2 (.lst [s1, s2, s3, s4, s5, s6, s7, .ref p]))
        generalize upd (upd H5 p (.tup [.int (t - 4), .int 1])) p2 (.lst [s1, s2, s3, s4, s5, s6, s7, .ref p]) = H7 at X7 q8 l7
        generalize [s1, s2, s3, s4, s5, s6, s7, V.ref p] = us at q8 l7
        refine n_xasg (x_call (x_cons (x_var rfl (x_cons (x_var rfl (x_nil ⟨a, p2, us, qs8.map fun q => numD q, rfl, X7.fd, hne2, l7, q8, fun z => (by rw [List.map_eq_nil_iff.mp z] at hQl; cases hQl), (by rw [List.length_map, hQl]; decide), fun d8 v8 H8 m8 x8 r8 => ?_⟩))))))
        obtain ⟨qk, hqk, rfl⟩ := List.mem_map.mp m8
        have hqk := hQ qk hqk
        have r8 : Kp c H8 v8 (.d (numD qk)) := r8
        have X8 := X7.trans x8
        have r5 := r5.fx hb.fx.fd X8
        have r6 := r6.fx hb.fx.fd X8
        have rx := rx.fx hb.fx.fd X8
        have hb := hb.step hne X8
        -- the start
        refine n_mid (fun σ' H' => ∃ u6 q6, σ' = [some (.ref a), some (.int m), some ux, some (.ref l), some (.int (j : Int)), some v5, some u6, some (.ref p2), some v8] ∧ Fx a H8 H' ∧ Kp c H' u6 (.d (numD q6)) ∧ Ht (19 * (j + 1) - 14) q6) ?_ fun fin6 => ?_
        · rintro σ' H' ⟨u6, q6, rfl, x6, r6, h6⟩
          have r5 := r5.fx hb.fx.fd x6
          have r8 := r8.fx hb.fx.fd x6
          have rx := rx.fx hb.fx.fd x6
          have hb := hb.step hne x6
          refine n_mid (fun σ' H2 => ∃ u5 q5, σ' = [some (.ref a), some (.int m), some ux, some (.ref l), some (.int (j : Int)), some u5, some u6, some (.ref p2), some v8] ∧ Fx a H' H2 ∧ Kp c H2 u5 (.d (numD q5)) ∧ Ht 100 q5) ?_ fun fin5 => ?_
          · rintro σ' H2 ⟨u5, q5, rfl, x7, r5, h5⟩
            have r6 := r6.fx hb.fx.fd x7
            have r8 := r8.fx hb.fx.fd x7
            have rx := rx.fx hb.fx.fd x7
            have hb := hb.step hne x7
            refine n_mid (fun σ' H3 => ∃ u5 q5, σ' = [some (.ref a), some (.int m), some ux, some (.ref l), some (.int (j : Int)), some u5, some u6, some (.ref p2), some v8] ∧ Fx a H2 H3 ∧ Kp c H3 u5 (.d (numD q5)) ∧ Ht 100 q5) ?_ fun fin4 => ?_
            · rintro σ' H3 ⟨u5, q5, rfl, x8, r5, h5⟩
              have r6 := r6.fx hb.fx.fd x8
              have r8 := r8.fx hb.fx.fd x8
              have rx := rx.fx hb.fx.fd x8
              have hb := hb.step hne x8
              have hlen := hr.len
              refine s_app (d := nodeD ⟨x, q5, q6, qk⟩) hb.ls hb.al (by rw [List.length_map]; omega) rfl (ev_tup (ed_cons (ev_var rfl rx) (ed_cons (ev_var rfl r5) (ed_cons (ev_var rfl r6) (ed_cons (ev_var rfl r8) ed_nil))))) fun vn H9 e9 f9 => ?_
              have l9 := e9 _ _ hb.ls
              refine ⟨ux, x, acc ++ [vn], raw ++ [⟨x, q5, q6, qk⟩], _, _, _, _, _, rfl, ⟨?_, upd_same, ?_⟩, ?_, ?_⟩
              · exact (hb.fx.ex e9).mut hf hl0
              · rw [List.map_append]
                exact f9
              · exact Fp.mono ((Tx.of e9).trans (Tx.upd l9)) rx
              · exact hr.snoc (m := ⟨x, q5, q6, qk⟩) hxi hj4 hz hlt hqk h6 h5
            · refine n_xif (x_takeEq rfl hb.fx.fd (by decide) (by decide) fun b H3 x3 => ?_)
              split
              · refine s_asg (c := c) (kd := .d (numD (ri (-(10 ^ 30))))) (ev_tup (ed_cons (ev_neg (ev_I (g := fun i j => i ^ j.toNat) ev_int ev_int ⟨by decide, by decide, by decide⟩)) (ed_cons ev_int ed_nil))) fun v H4 e4 r4 => fin4 _ _ ⟨v, ri (-(10 ^ 30)), rfl, x3.ex e4, r4, ri_ht (by decide +kernel) (by decide)⟩
              · exact fin4 _ _ ⟨u5, q5, rfl, x3, r5.fx hb.fx.fd x3, h5⟩
          · refine n_xif (x_takeEq rfl hb.fx.fd (by decide) (by decide) fun b H3 x3 => ?_)
            split
            · refine s_asg (ev_var rfl (r6.fx hb.fx.fd x3)) fun v H4 e4 r4 => fin5 _ _ ⟨v, q6, rfl, x3.ex e4, r4, h6.mono (by omega)⟩
            · exact fin5 _ _ ⟨v5, qv, rfl, x3, r5.fx hb.fx.fd x3, hv.mono (by decide)⟩
        · have no6 : ∀ H', Fx a H8 H' → ∃ u6 q6, [some (.ref a), some (.int m), some ux, some (.ref l), some (.int (j : Int)), some v5, some v6, some (.ref p2), some v8] = [some (.ref a), some (.int m), some ux, some (.ref l), some (.int (j : Int)), some v5, some u6, some (.ref p2), some v8] ∧ Fx a H8 H' ∧ Kp c H' u6 (.d (numD q6)) ∧ Ht (19 * (j + 1) - 14) q6 := fun H' x9 => ⟨v6, qs, rfl, x9, r6.fx hb.fx.fd x9, hs.mono (by omega)⟩
          refine n_xif (x_and (b := !raw.isEmpty) (et_test (neE hb rfl rfl)) (fun hbt H9 e9 => x_takeEq rfl (hb.fx.fd.ex e9) (by decide) (by decide) fun b H10 x10 => ?_) fun _ H9 e9 => fin6 _ _ (no6 H9 (Fx.of hb.fx.fd e9)))
          have X10 := (Fx.of hb.fx.fd e9).trans x10
          have rx := rx.fx hb.fx.fd X10
          have hb10 := hb.step hne X10
          split
          · obtain ⟨n, hn⟩ : ∃ n, raw.getLast? = some n := by
              cases hq : raw.getLast? with
              | none =>
                rw [List.getLast?_eq_none_iff.mp hq] at hbt
                cases hbt
              | some n => exact ⟨n, rfl⟩
            have hnm := List.mem_of_getLast? hn
            obtain ⟨b1, b2, b3, b4⟩ := hr.b n hnm
            have hback : L2.atI (raw.map nodeD) (-1) = some (nodeD n) := by
              refine atI_back ?_
              rw [List.getLast?_map, hn]
              rfl
            have d1 : Ht 15 (x - n.x) := hx7.sub b1
            have d2 : Ht 18 (n.k * (x - n.x)) := b2.mul d1
            have hj0 : 1 ≤ j := by
              rcases Nat.eq_zero_or_pos j with z | z
              · rw [hem.mpr z] at hbt
                cases hbt
              · exact z
            refine s_asg (ev_call (R := R_l_line) (ea_cons (ev_ixL (ds := raw.map nodeD) (ev_var rfl ⟨l, acc, rfl, hb10.ls, hb10.al⟩) (ev_neg ev_int) hback) (ea_cons (ev_var rfl rx) ea_nil)) ⟨n, x, rfl, ⟨b1.mono (by decide), hx7.mono (by decide), b2.mono (by decide), b3.mono (by omega), d1.mono (by decide), d2.mono (by decide)⟩, rfl⟩) fun v H11 e11 r11 => fin6 _ _ ⟨v, _, rfl, X10.ex e11, r11, (b3.add d2).mono (by omega)⟩
          · exact fin6 _ _ (no6 H10 X10)
      · by_cases hj0 : j = 0
        · refine n_ifF (et_test (neE hb rfl (by rw [hem.mpr hj0]; rfl))) fun H3 e3 => fin _ _ ⟨ux, x0, rfl, hb.step hne (Fx.of hb.fx.fd e3), rx.mono e3, ?_, ?_, hr.zero⟩
          · obtain ⟨k, h1, h2⟩ := hr.xi
            exact ⟨k, by omega, h2⟩
          · intro n hn
            have := hr.len
            rw [hj0] at this
            rw [List.length_eq_zero_iff.mp this] at hn
            cases hn
        · have hne0 : raw.isEmpty = false := by
            cases hq : raw.isEmpty with
            | false => rfl
            | true => exact absurd (hem.mp hq) hj0
          refine n_ifE (b := true) (et_test (neE hb rfl (by rw [hne0]; rfl))) (fun _ H3 e3 => ?_) fun z => nomatch z
          have hb := hb.step hne (Fx.of hb.fx.fd e3)
          have rx := rx.mono e3
          refine x_asg (x_call (x_cons (x_var rfl (x_cons (x_call (x_cons (x_var rfl (x_cons (x_evF (c := c) (ds := ([6, 6, 12, 30, 3, 14] : List Nat).map fun (s : Nat) => numD ((s : Rat) / 6)) (ef_lst (ed_cons (steps_k 6 (ri 1) (by decide +kernel) (tp 1 1)) (ed_cons (steps_k 6 (ri 1) (by decide +kernel) (tp 1 1)) (ed_cons (steps_k 12 (ri 2) (by decide +kernel) (tp 2 1)) (ed_cons (steps_k 30 (ri 5) (by decide +kernel) (tp 5 1)) (ed_cons (steps_k 3 (half 1 2 (by decide) (by decide)) (by decide +kernel) (tp 1 2)) (ed_cons (steps_k 14 (half 7 3 (by decide) (by decide)) (by decide +kernel) (tp 7 3)) ed_nil))))))) fun p us H4 hp e4 h4 f4 => x_nil ⟨a, p, us, _, rfl, hb.fx.fd.ex e4, hb.fx.fd.ne hp, h4, f4, by simp, by simp, fun d v H5 md x5 r5 => x_nil ?_⟩)))))))))
          obtain ⟨s, hs, rfl⟩ := List.mem_map.mp md
          have X5 := (Fx.of hb.fx.fd e4).trans x5
          have rx := rx.fx hb.fx.fd X5
          obtain ⟨k0, h1, h2⟩ := hr.xi
          have hs30 : 0 < s ∧ s ≤ 30 := by
            simp only [List.mem_cons, List.not_mem_nil, or_false] at hs
            omega
          have hsx : Ht 7 ((s : Rat) / 6) := xi_ht rfl (by omega)
          have hx0 : Ht 7 x0 := xi_ht h2 (by omega)
          refine ⟨_, _, .cons rx (.cons (show Kp c H5 v (.d (numD ((s : Rat) / 6))) from r5) .nil), ⟨x0, _, rfl, hx0.mono (by decide), hsx.mono (by decide), rfl⟩, fun v' H6 e6 r6 => fin _ _ ⟨v', _, rfl, hb.step hne (X5.ex e6), r6, ⟨k0 + s, by omega, xi_add h2 rfl⟩, fun n hn => ?_, fun z => absurd z hj0⟩⟩
          rw [hr.last n hn]
          have := xi_pos hs30.1
          grind
    · rintro σ' H' ⟨ux, x0, acc, raw, w4, w5, w6, w7, w8, rfl, hb, rx, hr⟩
      have hne0 : raw ≠ [] := by
        intro z
        have := hr.len
        rw [z] at this
        cases this
      have ht5 : t + 1 ≤ 5 := by omega
      have hb5 : ∀ n ∈ raw, Ht 7 n.x ∧ Ht 3 n.k ∧ Ht 81 n.s ∧ Ht 100 n.v := fun n hn => by
        obtain ⟨h1, h2, h3, h4⟩ := hr.b n hn
        exact ⟨h1, h2, h3.mono (by omega), h4⟩
      refine s_ret (ev_call (R := R_l_needed) (ea_cons (ev_var (kd := .l (raw.map nodeD)) rfl ⟨l, acc, rfl, hb.ls, hb.al⟩) ea_nil) ⟨raw, rfl, by have := hr.len; omega, fun n hn q hq => ?_, rfl⟩) fun v H3 e3 r => k raw v H3 ⟨hr.srt hne0, by have := hr.len; omega, fun n hn => (hb5 n hn).1, fun n hn => (hb5 n hn).2.1, fun n hn => (hb5 n hn).2.2.1, fun n hn => (hb5 n hn).2.2.2⟩ (hb.fx.ex e3) r
      obtain ⟨h1, h2, h3, h4⟩ := hb5 n hn
      have d1 : Ht 15 (q.x - n.x) := (hb5 q hq).1.sub h1
      exact ⟨h1.mono (by decide), (hb5 q hq).1.mono (by decide), h2.mono (by decide), h3.mono (by decide), d1.mono (by decide), (h2.mul d1).mono (by decide)⟩
end
end K66
set_option Elab.async false
set_option linter.all false
set_option autoImplicit false
set_option maxRecDepth 100000
set_option maxHeartbeats 4000000
/-! KL5: the law itself, given what the mathematics says. -/
namespace K66
open PySem PySem.Spec PyProof.Rows L2
open Evl (Ex EvT)
/-- all that the law asks of a found curve -/
structure FitOk (f : List Nd) (low high : Option Rat) (g : List Nd) : Prop where
  kp : KeepOk g low high
  kpv : keepsC g low high = true
  lr : LarOk g f
  lrv : larC g f = g
  lb : LbOk g low high
  lbv : lbC g low high = some g
  kc : KeepOk f low high
  kcv : keepsC f low high = decide (g = f)
  o1 : LbOk f low none
  o2 : LbOk f none high
  rest : ∃ p q, lbC f low none = some p ∧ lbC f none high = some q ∧ LarOk p q ∧ larC p q = g ∧ LbOk p none high ∧ lbC p none high = some g ∧ LbOk q low none ∧ lbC q low none = some g
structure IsOk (f g : List Nd) (low high : Option Rat) (y : Rat) : Prop where
  rc : RcOk f low high y
  l0 : LbOk f none none
  l0v : lbC f none none = some f
  l1 : LbOk f (some (ri 0)) none
  l1v : lbC f (some (ri 0)) none = some (hsC f)
  hs : ∃ N X S, HsOk f N X S
  nn : lbC f low high = none → (∃ h, high = some h) ∧ LbOk f none high ∧ lbC f none high = none
  ft : ∀ p, lbC f low high = some p → FitOk f low high p
  pl : ∀ p h, lbC f low high = some p → high = some h → LbOk f high high ∧ ∃ n : Nd, lbC f high high = some [n] ∧ n.k = h
  lr : LarOk g f
  mo : LbOk (larC g f) low high
  mov : ∀ p m, lbC f low high = some p → lbC (larC g f) low high = some m → LarOk m p ∧ larC m p = m
/-- what the mathematics says of the law's curves -/
structure Mth : Prop where
  ok : ∀ raw, Raw raw → OkN (mkC raw)
  is : ∀ raw raw2 low high y, Raw raw → Raw raw2 → RtS low high → 0 ≤ y → Ht 6 y → IsOk (mkC (mkC raw)) (mkC (mkC raw2)) low high y
theorem RtS.ok {low high : Option Rat} (h : RtS low high) : RtOk low high := ⟨fun l hl => (h.lo l hl).mono (by decide), fun l hl => (h.hi l hl).mono (by decide), h.le⟩
theorem reach_is {f : List Nd} {low high : Option Rat} {y : Rat} (h : RcOk f low high y) : (reachC f low high y).isNone = (lbC f low high).isNone := by
  cases hL : lbC f low high with
  | none =>
    unfold reachC
    rw [hL]
    rfl
  | some g =>
    obtain ⟨_, _, p, hp⟩ := h.g g hL
    rw [hp]
    rfl
section
variable {c : Cv} {σ : L2.St} {H : Hp} {ta tb te : TE} {Q : VK} {D : Ends} {kd : KD} {tw tu : TS} {t u : TT} {a : Addr}
theorem isN_cur (o : Option (List Nd)) : isN (curD o) = o.isNone := by cases o <;> rfl
theorem isN_pl (o : Option (Rat × Sd)) : isN (.d (optPD o)) = o.isNone := by cases o <;> rfl
theorem eqv_bool (a b : Bool) : PyData.eqv (.bool a) (.bool b) = (a == b) := by cases a <;> cases b <;> rfl
theorem x_make (h : te σ H fun v H1 => tMake c.C (spInit c) [] E0 (tCons (tC v) tNil) σ H1 Q) : tMake c.C (spInit c) [] E0 (tCons te tNil) σ H Q := h
theorem n_xasgG {g : TG} (h : te σ H fun v H1 => g v σ H1 fun σ' H' => tw D σ' H') : tSeq (tAsg te g) tw D σ H := h
theorem s_xif (h : t σ H fun b H1 => if b = true then tu D σ H1 else D.nx σ H1) : tIfS t tu tNext D σ H := h
theorem x_not {K : Bool → Hp → Prop} (h : t σ H fun b H1 => K (!b) H1) : tNot t σ H K := h
theorem x_val {K : Bool → Hp → Prop} (h : te σ H fun v H1 => ∃ b, v = .bl b ∧ K b H1) : tB te σ H K := h
/-- != of two curves -/
theorem et_neC {f g : List Nd} {b : Bool} (ha : EvK c ta σ H (.c f)) (hb : EvK c tb σ H (.c g)) (h : decide (f = g) = b) : EvT (tTest (tOp (rOwnN c.C (spF c R_eq)) ta tb)) σ H (!b) := et_test (ev_ownN (R := R_eq) ha hb ⟨f, g, rfl, by rw [h]⟩)
end
section
variable {P : Program} {w : World} {c : Cv} {mg : Str → Option Value} {base : Heap} {aZ aT : Addr}
def R_l_fits_right (ks : List KD) (kd : KD) : Prop := ∃ (f : List Nd) (low high : Option Rat) (g : List Nd), ks = [.c f, .d (optD low), .d (optD high), .c g] ∧ FitOk f low high g ∧ kd = .d (.bool true)
theorem c_l_fits_right (T : Txt c mg aZ aT) (S : Src c.K mg "_law_fits_right" t_l_fits_right ["_law_curve", "_law_low", "_law_high", "_law_found"]) (c_eq : DefM P w c.K mg base c.C "__eq__" ["self", "other"] 1 (spF c R_eq)) (c_least_between : Def P w c.K mg base "least_between" ["curve", "low", "high"] 12 (spF c R_least_between)) (c_keeps_between : Def P w c.K mg base "keeps_between" ["curve", "low", "high"] 7 (spF c R_keeps_between)) (c_larger : DefM P w c.K mg base c.C "larger" ["self", "other"] 9 (spF c R_larger)) :
    Def P w c.K mg base "_law_fits_right" ["_law_curve", "_law_low", "_law_high", "_law_found"] 14 (spF c R_l_fits_right) := S.ok fun f fd F => by
  refine F.ok sc_l_fits_right (fun vs H Q E h => ?_) (fun cdv A outer s H vs Q E hr h => ?_)
  · obtain ⟨_, _, hk, ⟨_, _, _, _, rfl, _⟩, _⟩ := h
    exact hk.length
  · obtain ⟨_, _, hk, ⟨g, low, high, p, rfl, ho, rfl⟩, k⟩ := h
    obtain ⟨v0, v1, v2, v3, rfl, r0, r1, r2, r3⟩ := KpAll.four hk
    refine ⟨_, (pss_cons (ps_if (PW.pt (pw_or (pt_not (pt_val (c_keeps_between.pe (hr.mono (by decide)) (by rfl) (pa_cons (pv 3) (pa_cons (pv 1) (pa_cons (pv 2) pa_nil)))))) (pw_or1 (pt_cmpR (c_eq.ne T rfl (hr.mono (by decide))) (c_larger.meth T rfl (hr.mono (by decide)) (pv 3) (pa_cons (pv 0) pa_nil)) (pv 3) (nomark _))))) (pss_one (ps_ret pe_bl)) pss_nil)
      (pss_cons (ps_if (PW.pt (pw_or (pt_cmpR (c_eq.ne T rfl (hr.mono (by decide))) (c_least_between.pe (hr.mono (by decide)) (by rfl) (pa_cons (pv 3) (pa_cons (pv 1) (pa_cons (pv 2) pa_nil)))) (pv 3) (nomark _)) (pw_or1 (pt_cmpR (oNeD c.K rfl hr.units) (c_keeps_between.pe (hr.mono (by decide)) (by rfl) (pa_cons (pv 0) (pa_cons (pv 1) (pa_cons (pv 2) pa_nil)))) (pe_cmpR (c_eq.eq T rfl (hr.mono (by decide))) (pv 3) (pv 0) (nomark _)) (nomark _))))) (pss_one (ps_ret pe_bl)) pss_nil)
      (pss_cons (ps_par (i := 4) (j := 5) (by rfl) sc_l_fits_right.nd rfl rfl (by decide) rfl rfl (pa_cons (c_least_between.pe (hr.mono (by decide)) (by rfl) (pa_cons (pv 0) (pa_cons (pv 1) (pa_cons pe_non pa_nil)))) (pa_cons (c_least_between.pe (hr.mono (by decide)) (by rfl) (pa_cons (pv 0) (pa_cons pe_non (pa_cons (pv 2) pa_nil)))) pa_nil)) (by rfl))
      (pss_cons (ps_if (PW.pt (pw_or (pt_cmpR (c_eq.ne T rfl (hr.mono (by decide))) (c_larger.meth T rfl (hr.mono (by decide)) (pv 4) (pa_cons (pv 5) pa_nil)) (pv 3) (nomark _)) (pw_or1 (pt_cmpR (c_eq.ne T rfl (hr.mono (by decide))) (c_least_between.pe (hr.mono (by decide)) (by rfl) (pa_cons (pv 4) (pa_cons pe_non (pa_cons (pv 2) pa_nil)))) (pv 3) (nomark _))))) (pss_one (ps_ret pe_bl)) pss_nil)
      (pss_one (ps_ret (pe_cmpR (c_eq.eq T rfl (hr.mono (by decide))) (c_least_between.pe (hr.mono (by decide)) (by rfl) (pa_cons (pv 5) (pa_cons (pv 1) (pa_cons pe_non pa_nil)))) (pv 3) (nomark _)))))))), ?_⟩
    obtain ⟨q1, q2, z1, z2, z3, z4, z5, z6, z7, z8⟩ := ho.rest
    refine n_ifF (et_or (a := false) (b := false) (et_not (a := true) (et_val (ev_is (ev_call (R := R_keeps_between) (ea_cons (ev_var rfl r3) (ea_cons (ev_var rfl r1) (ea_cons (ev_var rfl r2) ea_nil))) ⟨p, low, high, rfl, ho.kp, rfl⟩) (by rw [ho.kpv])))) fun _ => et_neC (b := true) (ev_meth (R := R_larger) (ev_var rfl r3) (ev_var rfl r0) ⟨p, g, rfl, ho.lr, rfl⟩) (ev_var rfl r3) (by rw [ho.lrv]; exact decide_eq_true rfl)) fun H1 e1 => ?_
    have r0 := r0.mono e1
    have r1 := r1.mono e1
    have r2 := r2.mono e1
    have r3 := r3.mono e1
    refine n_ifF (et_or (a := false) (b := false) (et_neC (b := true) (ev_is (ev_call (R := R_least_between) (ea_cons (ev_var rfl r3) (ea_cons (ev_var rfl r1) (ea_cons (ev_var rfl r2) ea_nil))) ⟨p, low, high, rfl, ho.lb, rfl⟩) (by rw [ho.lbv]; rfl)) (ev_var rfl r3) (decide_eq_true rfl)) fun _ => et_test (ev_is (ev_neD (ev_call (R := R_keeps_between) (ea_cons (ev_var rfl r0) (ea_cons (ev_var rfl r1) (ea_cons (ev_var rfl r2) ea_nil))) ⟨g, low, high, rfl, ho.kc, rfl⟩) (ev_ownB (R := R_eq) (ev_var rfl r3) (ev_var rfl r0) ⟨p, g, rfl, rfl⟩) (.d _) (.d _) rfl rfl) (by rw [ho.kcv, eqv_bool]; simp))) fun H2 e2 => ?_
    have r0 := r0.mono e2
    have r1 := r1.mono e2
    have r2 := r2.mono e2
    have r3 := r3.mono e2
    refine n_par (k1 := .c q1) (k2 := .c q2) (ea_cons (ev_is (ev_call (R := R_least_between) (ea_cons (ev_var rfl r0) (ea_cons (ev_var rfl r1) (ea_cons (ev_non (c := c)) ea_nil))) ⟨g, low, none, rfl, ho.o1, rfl⟩) (by rw [z1]; rfl)) (ea_cons (ev_is (ev_call (R := R_least_between) (ea_cons (ev_var rfl r0) (ea_cons (ev_non (c := c)) (ea_cons (ev_var rfl r2) ea_nil))) ⟨g, none, high, rfl, ho.o2, rfl⟩) (by rw [z2]; rfl)) ea_nil)) fun v4 v5 H3 e3 r4 r5 => ?_
    have r1 := r1.mono e3
    have r2 := r2.mono e3
    have r3 := r3.mono e3
    refine n_ifF (et_or (a := false) (b := false) (et_neC (b := true) (ev_meth (R := R_larger) (ev_var rfl r4) (ev_var rfl r5) ⟨q1, q2, rfl, z3, rfl⟩) (ev_var rfl r3) (by rw [z4]; exact decide_eq_true rfl)) fun _ => et_neC (b := true) (ev_is (ev_call (R := R_least_between) (ea_cons (ev_var rfl r4) (ea_cons (ev_non (c := c)) (ea_cons (ev_var rfl r2) ea_nil))) ⟨q1, none, high, rfl, z5, rfl⟩) (by rw [z6]; rfl)) (ev_var rfl r3) (decide_eq_true rfl)) fun H4 e4 => ?_
    refine s_ret (kd := .d (.bool true)) (ev_is (ev_ownB (R := R_eq) (ev_is (ev_call (R := R_least_between) (ea_cons (ev_var rfl (r5.mono e4)) (ea_cons (ev_var rfl (r1.mono e4)) (ea_cons (ev_non (c := c)) ea_nil))) ⟨q2, low, none, rfl, z7, rfl⟩) (by rw [z8]; rfl)) (ev_var rfl (r3.mono e4)) ⟨p, p, rfl, rfl⟩) (by rw [decide_eq_true (rfl : p = p)])) fun v H5 e5 r => k v H5 ((((e1.trans e2).trans e3).trans e4).trans e5) r
def sp_l_is_right (c : Cv) : Sp := fun vs H Q _ => ∃ (a : Addr) (v1 v2 : V) (raw raw2 : List Nd), vs = [.ref a, v1, v2] ∧ Fd H a ∧ Kp c H v1 (.c (mkC (mkC raw))) ∧ Kp c H v2 (.c (mkC (mkC raw2))) ∧ Raw raw ∧ Raw raw2 ∧ ∀ H', Fx a H H' → Q (.bl true) H'
theorem Kp.fxc {a : Addr} {H H' : Hp} {v : V} {f : List Nd} (h : Kp c H v (.c f)) (fd : Fd H a) (x : Fx a H H') : Kp c H' v (.c f) := CrvR.tmono (x.tx fd) h
theorem c_l_is_right (M : Mth) (T : Txt c mg aZ aT) (S : Src c.K mg "_law_is_right" t_l_is_right ["_law_feed_here", "_law_curve", "_law_other"]) (c_l_rates : Def P w c.K mg base "_law_rates" ["_law_feed_here"] 3 (sp_l_rates c)) (c_least_between : Def P w c.K mg base "least_between" ["curve", "low", "high"] 12 (spF c R_least_between)) (c_l_number : Def P w c.K mg base "_law_number" ["_law_top", "_law_bottom"] 2 (spF c R_l_number)) (c_eq : DefM P w c.K mg base c.C "__eq__" ["self", "other"] 1 (spF c R_eq)) (c_l_fits_right : Def P w c.K mg base "_law_fits_right" ["_law_curve", "_law_low", "_law_high", "_law_found"] 14 (spF c R_l_fits_right)) (c_larger : DefM P w c.K mg base c.C "larger" ["self", "other"] 9 (spF c R_larger)) (c_l_take : Def P w c.K mg base "_law_take" ["_law_feed_here", "_law_size"] 1 (sp_l_take c)) (c_reached_from : Def P w c.K mg base "reached_from" ["curve", "low", "high", "income"] 13 (spF c R_reached_from)) (c_highest_so_far : Def P w c.K mg base "highest_so_far" ["curve"] 8 (spF c R_highest_so_far)) :
    Def P w c.K mg base "_law_is_right" ["_law_feed_here", "_law_curve", "_law_other"] 15 (sp_l_is_right c) := S.ok fun f fd F => by
  refine F.ok sc_l_is_right (fun vs H Q E h => ?_) (fun cdv A outer s H vs Q E hr h => ?_)
  · obtain ⟨a, v1, v2, raw, raw2, rfl, _⟩ := h
    rfl
  · obtain ⟨a, v1, v2, raw, raw2, rfl, hf, r1, r2, hw1, hw2, k⟩ := h
    refine ⟨_, (pss_cons (ps_asg (c_l_rates.pe (hr.mono (by decide)) (by rfl) (pa_cons (pv 0) pa_nil)) (pg_unl rfl (pgs_cons (pg_name (i := 3) sc_l_is_right.nd rfl (Or.inl rfl)) (pgs_cons (pg_name (i := 4) sc_l_is_right.nd rfl (Or.inl rfl)) pgs_nil))))
      (pss_cons (ps_par (i := 5) (j := 6) (by rfl) sc_l_is_right.nd rfl rfl (by decide) rfl rfl (pa_cons (c_least_between.pe (hr.mono (by decide)) (by rfl) (pa_cons (pv 1) (pa_cons (pv 3) (pa_cons (pv 4) pa_nil)))) (pa_cons (c_l_number.pe (hr.mono (by decide)) (by rfl) (pa_cons (c_l_take.pe (hr.mono (by decide)) (by rfl) (pa_cons (pv 0) (pa_cons pe_int pa_nil))) (pa_cons (pe_op op_add pe_int (c_l_take.pe (hr.mono (by decide)) (by rfl) (pa_cons (pv 0) (pa_cons pe_int pa_nil)))) pa_nil))) pa_nil)) (by rfl))
      (pss_cons (ps_if (pt_cmpR (oNeD c.K rfl hr.units) (pe_cmpR op_isN (pv 5) pe_non (nomark _)) (pe_cmpR op_isN (c_reached_from.pe (hr.mono (by decide)) (by rfl) (pa_cons (pv 1) (pa_cons (pv 3) (pa_cons (pv 4) (pa_cons (pv 6) pa_nil))))) pe_non (nomark _)) (nomark _)) (pss_one (ps_ret pe_bl)) pss_nil)
      (pss_cons (ps_if (PW.pt (pw_or (pt_cmpR (c_eq.ne T rfl (hr.mono (by decide))) (c_least_between.pe (hr.mono (by decide)) (by rfl) (pa_cons (pv 1) (pa_cons pe_non (pa_cons pe_non pa_nil)))) (pv 1) (nomark _)) (pw_or1 (pt_cmpR (c_eq.ne T rfl (hr.mono (by decide))) (c_least_between.pe (hr.mono (by decide)) (by rfl) (pa_cons (pv 1) (pa_cons (pe_tup (pa_cons pe_int (pa_cons pe_int pa_nil))) (pa_cons pe_non pa_nil)))) (c_highest_so_far.pe (hr.mono (by decide)) (by rfl) (pa_cons (pv 1) pa_nil)) (nomark _))))) (pss_one (ps_ret pe_bl)) pss_nil)
      (pss_cons (ps_if (pt_cmpR op_isN (pv 5) pe_non (nomark _)) (pss_one (ps_ret (pe_and (pe_cmpR op_notN (pv 4) pe_non (nomark _)) (pe_one (pe_cmpR op_isN (c_least_between.pe (hr.mono (by decide)) (by rfl) (pa_cons (pv 1) (pa_cons pe_non (pa_cons (pv 4) pa_nil)))) pe_non (nomark _)))))) pss_nil)
      (pss_cons (ps_if (pt_not (pt_val (c_l_fits_right.pe (hr.mono (by decide)) (by rfl) (pa_cons (pv 1) (pa_cons (pv 3) (pa_cons (pv 4) (pa_cons (pv 5) pa_nil))))))) (pss_one (ps_ret pe_bl)) pss_nil)
      (pss_cons (ps_set (i := 7) sc_l_is_right.nd rfl (Or.inl rfl) (pe_ifExp (pt_cmpR op_notN (pv 4) pe_non (nomark _)) (c_least_between.pe (hr.mono (by decide)) (by rfl) (pa_cons (pv 1) (pa_cons (pv 4) (pa_cons (pv 4) pa_nil)))) pe_non))
      (pss_cons (ps_if (PW.pt (pw_and (pt_cmpR op_notN (pv 7) pe_non (nomark _)) (pw_and1 (PW.pt (pw_or (pt_cmpR (oNeD c.K rfl hr.units) (pe_callB (kLen c.K rfl) (by rfl) T.len (by decide +kernel) (pa_cons (peF c.K rfl (pv 7) rfl) pa_nil)) pe_int (nomark _)) (pw_or1 (pt_cmpR (oNeD c.K rfl hr.units) (pe_ix (ixT c.K rfl) (pe_ix (ixT c.K rfl) (peF c.K rfl (pv 7) rfl) pe_int (fun _ _ => rfl)) pe_int (fun _ _ => rfl)) (pv 4) (nomark _)))))))) (pss_one (ps_ret pe_bl)) pss_nil)
      (pss_cons (ps_set (i := 8) sc_l_is_right.nd rfl (Or.inl rfl) (c_least_between.pe (hr.mono (by decide)) (by rfl) (pa_cons (c_larger.meth T rfl (hr.mono (by decide)) (pv 2) (pa_cons (pv 1) pa_nil)) (pa_cons (pv 3) (pa_cons (pv 4) pa_nil)))))
      (pss_one (ps_ret (pe_or (pe_cmpR op_isN (pv 8) pe_non (nomark _)) (pe_one (pe_cmpR (c_eq.eq T rfl (hr.mono (by decide))) (c_larger.meth T rfl (hr.mono (by decide)) (pv 8) (pa_cons (pv 5) pa_nil)) (pv 8) (nomark _))))))))))))))), ?_⟩
    refine n_xasgG (x_call (x_cons (x_var rfl (x_nil ⟨a, rfl, hf, fun low high p us H1 hrt x1 hp hus => ?_⟩))))
    obtain ⟨v3, v4, rfl, r3, r4⟩ : ∃ v3 v4, us = [v3, v4] ∧ Kp c H1 v3 (.d (optD low)) ∧ Kp c H1 v4 (.d (optD high)) := by
      cases hus with
      | cons h1 t =>
        cases t with
        | cons h2 t =>
          cases t
          exact ⟨_, _, rfl, h1, h2⟩
    refine ⟨p, _, rfl, SqL.of hp, rfl, _, _, rfl, _, _, rfl, rfl, ?_⟩
    have r1 := r1.fxc hf x1
    have r2 := r2.fxc hf x1
    have hM := M.is raw raw2 low high
    generalize mkC (mkC raw) = f at r1 hM
    generalize mkC (mkC raw2) = g at r2 hM
    have hlb : LbOk f low high := (hM 0 hw1 hw2 hrt Rat.le_refl (ht_zero.mono (by decide))).rc.lb
    refine n_xpar (x_ev (kd := curD (lbC f low high)) (ev_call (ea_cons (ev_var rfl r1) (ea_cons (ev_var rfl r3) (ea_cons (ev_var rfl r4) ea_nil))) ⟨f, low, high, rfl, hlb, rfl⟩) fun v5 H2 e2 r5 => x_call (x_cons (x_take rfl (x1.fd.ex e2) (by decide) (by decide) fun t H3 t0 t1 x3 => x_cons (x_addI (x_take rfl x3.fd (by decide) (by decide) fun u H4 u0 u1 x4 => ⟨u, rfl, x_nil ?_⟩)))))
    have hb : (1 + u) ≠ 0 := by omega
    have htb : t.natAbs < 2 ^ 6 := by omega
    have hub : (1 + u).natAbs < 2 ^ 6 := by omega
    have hy : Ht 6 (Rat.divInt t (1 + u)) := divInt_ht hb htb hub
    have hy0 : 0 ≤ Rat.divInt t (1 + u) := Rat.divInt_nonneg t0 (by omega)
    refine ⟨_, _, .cons (show Kp c H4 (.int t) (.d (.int t)) from Fp.int _) (.cons (show Kp c H4 (.int (1 + u)) (.d (.int (1 + u))) from Fp.int _) .nil), ⟨t, 1 + u, rfl, hb, big_mono htb (by decide), big_mono hub (by decide), rfl⟩, fun v6 H5 e5 r6 => ?_⟩
    have X5 : Fx a H1 H5 := ((Fx.of x1.fd e2).trans (x3.trans x4)).ex e5
    have hM := hM _ hw1 hw2 hrt hy0 hy
    generalize Rat.divInt t (1 + u) = y at hM r6
    have r1 := r1.fxc x1.fd X5
    have r2 := r2.fxc x1.fd X5
    have r3 := r3.fx x1.fd X5
    have r4 := r4.fx x1.fd X5
    have r5' : Kp c H5 v5 (curD (lbC f low high)) := by
      have fd2 := x1.fd.ex e2
      have X25 : Fx a H2 H5 := (x3.trans x4).ex e5
      cases hL : lbC f low high with
      | none =>
        rw [hL] at r5
        exact Fp.mono (X25.tx fd2) r5
      | some p =>
        rw [hL] at r5
        exact CrvR.tmono (X25.tx fd2) r5
    have FX := x1.trans X5
    have rc := hM.rc
    refine n_ifF (et_test (ev_is (ev_neD (ev_isN (ev_var rfl r5')) (ev_isN (ev_call (R := R_reached_from) (ea_cons (ev_var rfl r1) (ea_cons (ev_var rfl r3) (ea_cons (ev_var rfl r4) (ea_cons (ev_var rfl r6) ea_nil)))) ⟨f, low, high, y, rfl, rc, rfl⟩)) (.d _) (.d _) rfl rfl) (by rw [isN_cur, isN_pl, reach_is rc, eqv_bool]; simp))) fun H6 e6 => ?_
    have r1 := r1.mono e6
    have r2 := r2.mono e6
    have r3 := r3.mono e6
    have r4 := r4.mono e6
    have r5 := r5'.mono e6
    obtain ⟨N, X, S, hs⟩ := hM.hs
    refine n_ifF (et_or (a := false) (b := false) (et_neC (b := true) (ev_is (ev_call (R := R_least_between) (ea_cons (ev_var rfl r1) (ea_cons (ev_non (c := c)) (ea_cons (ev_non (c := c)) ea_nil))) ⟨f, none, none, rfl, hM.l0, rfl⟩) (by rw [hM.l0v]; rfl)) (ev_var rfl r1) (decide_eq_true rfl)) fun _ => et_neC (b := true) (ev_is (ev_call (R := R_least_between) (ea_cons (ev_var rfl r1) (ea_cons (ev_tup (ds := [.int 0, .int 1]) (ed_cons ev_int (ed_cons ev_int ed_nil))) (ea_cons (ev_non (c := c)) ea_nil))) ⟨f, some (ri 0), none, rfl, hM.l1, rfl⟩) (by rw [hM.l1v]; rfl)) (ev_call (R := R_highest_so_far) (ea_cons (ev_var rfl r1) ea_nil) ⟨f, N, X, S, rfl, hs, rfl⟩) (decide_eq_true rfl)) fun H7 e7 => ?_
    have r1 := r1.mono e7
    have r2 := r2.mono e7
    have r3 := r3.mono e7
    have r4 := r4.mono e7
    have r5 := r5.mono e7
    have FX7 := (FX.ex e6).ex e7
    cases hL : lbC f low high with
    | none =>
      rw [hL] at r5
      have r5n : Kp c H7 v5 (.d .none) := r5
      clear r5
      obtain ⟨⟨hh, rfl⟩, n1, n2⟩ := hM.nn hL
      refine n_ifE (b := true) (et_test (ev_isN (ev_var rfl r5n))) (fun _ H8 e8 => ?_) fun z => nomatch z
      refine s_ret (kd := .d (.bool true)) (ev_andV (a := true) (b := true) (ev_notN (ev_var rfl (r4.mono e8))) fun _ => ev_is (ev_isN (ev_call (R := R_least_between) (ea_cons (ev_var rfl (r1.mono e8)) (ea_cons (ev_non (c := c)) (ea_cons (ev_var rfl (r4.mono e8)) ea_nil))) ⟨f, none, some hh, rfl, n1, rfl⟩)) (by rw [isN_cur, n2]; rfl)) fun v H9 e9 r => ?_
      rw [Fp.blE r]
      exact k H9 ((FX7.ex e8).ex e9)
    | some p =>
      rw [hL] at r5
      have r5 : Kp c H7 v5 (.c p) := r5
      have hfit := hM.ft p hL
      refine n_ifF (et_test (ev_isN (ev_var rfl r5))) fun H8 e8 => ?_
      refine n_ifF (et_not (a := true) (et_val (ev_call (ea_cons (ev_var rfl (r1.mono e8)) (ea_cons (ev_var rfl (r3.mono e8)) (ea_cons (ev_var rfl (r4.mono e8)) (ea_cons (ev_var rfl (r5.mono e8)) ea_nil)))) ⟨f, low, high, p, rfl, hfit, rfl⟩))) fun H9 e9 => ?_
      have e89 := e8.trans e9
      have r1 := r1.mono e89
      have r2 := r2.mono e89
      have r3 := r3.mono e89
      have r4 := r4.mono e89
      have r5 := r5.mono e89
      have FX9 := FX7.ex e89
      refine n_mid (fun σ' H' => ∃ v7 o, σ' = [some (.ref a), some v1, some v2, some v3, some v4, some v5, some v6, some v7, none] ∧ Ex H9 H' ∧ Kp c H' v7 (curD o) ∧ (o = none ∨ ∃ (n : Nd) (hh : Rat), o = some [n] ∧ high = some hh ∧ n.k = hh)) ?_ fun fin => ?_
      · rintro σ' H' ⟨v7, o, rfl, e10, r7, h7⟩
        have r1 := r1.mono e10
        have r2 := r2.mono e10
        have r3 := r3.mono e10
        have r4 := r4.mono e10
        have r5 := r5.mono e10
        have FX10 := FX9.ex e10
        have o1 := hM.mo
        refine n_ifF ?_ fun H10 e10 => ?_
        · rcases h7 with rfl | ⟨n, hh, rfl, rfl, p3⟩
          · have r7 : Kp c H' v7 (.d .none) := r7
            exact et_and (a := false) (b := false) (et_test (ev_notN (ev_var rfl r7))) fun z => nomatch z
          · have r7 : Kp c H' v7 (.c [n]) := r7
            have r4 : Kp c H' v4 (.d (numD hh)) := r4
            exact et_and (a := true) (b := false) (et_test (ev_notN (ev_var rfl r7))) fun _ => et_or (a := false) (b := false) (et_test (ev_is (ev_neD (ev_lenT (ds := [nodeD n]) (ev_nodes T (ev_var rfl r7))) ev_int (.d _) (.d _) rfl rfl) rfl)) fun _ => et_test (ev_is (ev_neD (ev_ixT (ds := [numD n.x, numD n.v, numD n.s, numD n.k]) (ev_ixT (ds := [nodeD n]) (ev_nodes T (ev_var rfl r7)) ev_int (atI_nat (j := 0) rfl)) ev_int (atI_nat (j := 3) rfl)) (ev_var rfl r4) (.d _) (.d _) rfl rfl) (by rw [eqv_num, p3, decide_eq_true (rfl : hh = hh)]; rfl))
        have r1 := r1.mono e10
        have r2 := r2.mono e10
        have r3 := r3.mono e10
        have r4 := r4.mono e10
        have r5 := r5.mono e10
        have FX10 := FX10.ex e10
        refine n_asg (kd := curD (lbC (larC g f) low high)) (ev_call (ea_cons (ev_meth (R := R_larger) (ev_var rfl r2) (ev_var rfl r1) ⟨g, f, rfl, hM.lr, rfl⟩) (ea_cons (ev_var rfl r3) (ea_cons (ev_var rfl r4) ea_nil))) ⟨larC g f, low, high, rfl, o1, rfl⟩) fun v8 H11 e11 r8 => ?_
        have FX11 := FX10.ex e11
        cases hm : lbC (larC g f) low high with
        | none =>
          rw [hm] at r8
          have r8 : Kp c H11 v8 (.d .none) := r8
          refine s_ret (kd := .d (.bool true)) (ev_orV (a := true) (b := true) (ev_isN (ev_var rfl r8)) fun z => nomatch z) fun v H12 e12 r => ?_
          rw [Fp.blE r]
          exact k H12 (FX11.ex e12)
        | some m =>
          rw [hm] at r8
          have r8 : Kp c H11 v8 (.c m) := r8
          obtain ⟨o4, o5⟩ := hM.mov p m hL hm
          refine s_ret (kd := .d (.bool true)) (ev_is (ev_orV (a := false) (b := true) (ev_isN (ev_var rfl r8)) fun _ => ev_is (ev_ownB (R := R_eq) (ev_meth (R := R_larger) (ev_var rfl r8) (ev_var rfl (r5.mono e11)) ⟨m, p, rfl, o4, rfl⟩) (ev_var rfl r8) ⟨_, m, rfl, rfl⟩) (by rw [o5, decide_eq_true (rfl : m = m)])) rfl) fun v H12 e12 r => ?_
          rw [Fp.blE r]
          exact k H12 (FX11.ex e12)
      · cases high with
        | none =>
          refine n_asg (c := c) (kd := .d .none) (ev_if (b := false) (et_test (ev_notN (ev_var rfl r4))) (fun z => nomatch z) fun _ => ev_non) fun v7 H10 e10 r7 => ?_
          exact fin _ _ ⟨v7, none, rfl, e10, r7, .inl rfl⟩
        | some hh =>
          obtain ⟨p1, n, p2, p3⟩ := hM.pl p hh hL rfl
          have r4 : Kp c H9 v4 (.d (numD hh)) := r4
          refine n_asg (kd := .c [n]) (ev_if (b := true) (et_test (ev_notN (ev_var rfl r4))) (fun _ => ev_is (ev_call (R := R_least_between) (ea_cons (ev_var rfl r1) (ea_cons (ev_var rfl r4) (ea_cons (ev_var rfl r4) ea_nil))) ⟨f, some hh, some hh, rfl, p1, rfl⟩) (by rw [p2]; rfl)) fun z => nomatch z) fun v7 H10 e10 r7 => ?_
          exact fin _ _ ⟨v7, some [n], rfl, e10, r7, .inr ⟨n, hh, rfl, rfl, p3⟩⟩
def sp_law (K : Fg) : Sp := fun vs H Q _ => ∃ (b : Addr) (ns : List Int), vs = [.ref b] ∧ SqL K H b (ns.map V.int) ∧ ns.length ≤ 63 ∧ ∀ H', Q (.bl true) H'
theorem Ex.ofFx {a : Addr} {H H1 H2 : Hp} (h : H a = none) (e : Ex H H1) (x : Fx a H1 H2) : Ex H H2 := fun b o q => x.om b o (fun z => by rw [z, h] at q; cases q) (e b o q)
theorem ok_law (M : Mth) (T : Txt c mg aZ aT) {f : Addr} {fd : FuncData} (F : Fun c.K "law" "law" t_law f fd) (c_l_feed : Def P w c.K mg base "_law_feed" ["_law_script", "_law_k"] 1 (sp_l_feed c)) (c_Curve : DefM P w c.K mg base c.C "__init__" ["self", "nodes"] 6 (spInit c)) (c_l_few : Def P w c.K mg base "_law_few" ["_law_feed_here", "_law_most_here"] 6 (sp_l_few c)) (c_l_is_right : Def P w c.K mg base "_law_is_right" ["_law_feed_here", "_law_curve", "_law_other"] 15 (sp_l_is_right c)) :
    FnOk P w c.K mg base CX0 16 f fd ["_law_script"] (sp_law c.K) := by
  refine F.ok sc_law (fun vs H Q E h => ?_) (fun cdv A outer s H vs Q E hr h => ?_)
  · obtain ⟨b, ns, rfl, _⟩ := h
    rfl
  · obtain ⟨b, ns, rfl, hb, hl, k⟩ := h
    refine ⟨_, (pss_cons (ps_for PassesOwn.never rfl (pi_range1 (by rfl) T.range (pa_cons (pe_callB (call_max2 rfl) (by rfl) T.max (by decide +kernel) (pa_cons pe_int (pa_cons (pe_callB (call_min2 rfl) (by rfl) T.min (by decide +kernel) (pa_cons pe_int (pa_cons (pe_callB (kLen c.K rfl) (by rfl) T.len (by decide +kernel) (pa_cons (pv 0) pa_nil)) pa_nil))) pa_nil))) pa_nil)) (pg_name (i := 1) sc_law.nd rfl (Or.inl rfl)) (pss_cons (ps_set (i := 2) sc_law.nd rfl (Or.inl rfl) (c_l_feed.pe (hr.mono (by decide)) (by rfl) (pa_cons (pv 0) (pa_cons (pv 1) pa_nil))))
      (pss_cons (ps_par (i := 3) (j := 4) (by rfl) sc_law.nd rfl rfl (by decide) rfl rfl (pa_cons (c_Curve.mk T rfl (hr.mono (by decide)) (by rfl) (pa_cons (c_l_few.pe (hr.mono (by decide)) (by rfl) (pa_cons (pv 2) (pa_cons pe_int pa_nil))) pa_nil)) (pa_cons (c_Curve.mk T rfl (hr.mono (by decide)) (by rfl) (pa_cons (c_l_few.pe (hr.mono (by decide)) (by rfl) (pa_cons (pv 2) (pa_cons pe_int pa_nil))) pa_nil)) pa_nil)) (by rfl))
      (pss_one (ps_for PassesOwn.never rfl (pi_range1 (by rfl) T.range (pa_cons pe_int pa_nil)) (pg_name (i := 5) sc_law.nd rfl (Or.inl rfl)) (pss_one (ps_if (pt_not (pt_val (c_l_is_right.pe (hr.mono (by decide)) (by rfl) (pa_cons (pv 2) (pa_cons (pv 3) (pa_cons (pv 4) pa_nil)))))) (pss_one (ps_ret pe_bl)) pss_nil)))))))
      (pss_one (ps_ret pe_bl))), ?_⟩
    obtain ⟨n, hn, hn4⟩ : ∃ n : Nat, (if (if (ns.length : Int) < 4 then (ns.length : Int) else 4) > 1 then (if (ns.length : Int) < 4 then (ns.length : Int) else 4) else 1) = (n : Int) ∧ n ≤ 4 := by
      by_cases h1 : (ns.length : Int) < 4
      · rw [if_pos h1]
        by_cases h2 : (ns.length : Int) > 1
        · rw [if_pos h2]
          exact ⟨ns.length, rfl, by omega⟩
        · rw [if_neg h2]
          exact ⟨1, rfl, by decide⟩
      · rw [if_neg h1]
        exact ⟨4, rfl, by decide⟩
    refine n_forRng (n := n) (c := c) (ev_is (ev_max ev_int (ev_min ev_int (ev_lenS rfl hb))) (by rw [hn])) (by omega) fun H1 e1 => ⟨fun j σ' H' => ∃ w1 w2 w3 w4 w5, σ' = [some (.ref b), w1, w2, w3, w4, w5] ∧ Ex H H', ⟨none, none, none, none, none, rfl, e1⟩, ?_, ?_⟩
    · rintro j σ' H' hj ⟨w1, w2, w3, w4, w5, rfl, e⟩
      refine n_xasg (x_call (x_cons (x_var rfl (x_cons (x_var rfl (x_nil ⟨ns, j, b, rfl, Evl.ex_l e hb, by omega, fun a H2 ha e2 fd => ?_⟩))))))
      have ha0 : H a = none := Evl.fresh_back e ha
      have e02 := e.trans e2
      refine n_xpar (x_make (x_call (x_cons (x_var rfl (x_cons (x_c (x_nil ⟨a, 5, rfl, fd, by decide, by decide, fun raw u3 H3 hraw x3 r3 => ev_make (c := c) (ev_glob r3) (M.ok raw hraw) H3 (Ex.refl H3) _ fun v3 H4 e4 r3 => x_make (x_call (x_cons (x_var rfl (x_cons (x_c (x_nil ⟨a, 3, rfl, x3.fd.ex e4, by decide, by decide, fun raw2 u4 H5 hraw2 x5 r4 => ev_make (c := c) (ev_glob r4) (M.ok raw2 hraw2) H5 (Ex.refl H5) _ fun v4 H6 e6 r4 => ?_⟩))))))⟩)))))))
      have X36 : Fx a H2 H6 := ((x3.ex e4).trans x5).ex e6
      have r3 := r3.fxc (x3.fd.ex e4) (x5.ex e6)
      refine s_forRng (n := 2) (c := c) ev_int (by decide) fun H7 e7 => ⟨fun j' σ' H' => ∃ w5, σ' = [some (.ref b), some (.int (j : Int)), some (.ref a), some v3, some v4, w5] ∧ Fx a H6 H', ⟨w5, rfl, Fx.of X36.fd e7⟩, ?_, ?_⟩
      · rintro j' σ' H' hj' ⟨w5, rfl, x⟩
        refine s_xif (x_not (x_val (x_call (x_cons (x_var rfl (x_cons (x_var rfl (x_cons (x_var rfl (x_nil ⟨a, v3, v4, raw, raw2, rfl, x.fd, r3.fxc X36.fd x, r4.fxc X36.fd x, hraw, hraw2, fun H8 x8 => ⟨true, rfl, ?_⟩⟩))))))))))
        rw [if_neg (by decide)]
        exact ⟨_, rfl, x.trans x8⟩
      · rintro σ' H' ⟨w5, rfl, x⟩
        exact ⟨_, _, _, _, _, rfl, Ex.ofFx ha0 e02 (X36.trans x)⟩
    · rintro σ' H' ⟨w1, w2, w3, w4, w5, rfl, e⟩
      exact s_ret (c := c) (ev_bl (b := true)) fun v H2 e2 r => by
        rw [Fp.blE r]
        exact k H2
end
end K66
set_option autoImplicit false
/-! M1: curves as functions: the node that holds at an income, germs, needless nodes, uniqueness. Core only. -/
namespace K66
theorem mul_mono {a b c : Rat} (h : a ≤ b) (hc : 0 ≤ c) : a * c ≤ b * c := Rat.mul_le_mul_of_nonneg_right h hc
theorem lim_le {a b c d : Rat} (hd : 0 < d) (h : ∀ e : Rat, 0 < e → e < d → a + b * e ≤ c) : a ≤ c := by
  refine Rat.not_lt.mp fun hlt => ?_
  by_cases hb : 0 ≤ b
  · have := h (d / 2) (by grind) (by grind)
    have h2 : 0 ≤ b * (d / 2) := Rat.mul_nonneg hb (by grind)
    grind
  · have hb' : 0 < -b := by grind
    have hq : 0 < (a - c) / (2 * -b) := by
      rw [Rat.div_def]
      exact Rat.mul_pos (by grind) (Rat.inv_pos.mpr (by grind))
    have hm : b * ((a - c) / (2 * -b)) = -((a - c) / 2) := by grind
    by_cases hx : d / 2 ≤ (a - c) / (2 * -b)
    · have h1 := h (d / 2) (by grind) (by grind)
      have h2 : -b * (d / 2) ≤ -b * ((a - c) / (2 * -b)) := by
        have := mul_mono hx (c := -b) (by grind)
        grind
      grind
    · have h1 := h _ hq (by grind)
      grind
/-- ascending from n on -/
def Asc : Nd → List Nd → Prop
  | _, [] => True
  | n, m :: t => n.x < m.x ∧ Asc m t
/-- the node that holds at y, from n on -/
def ev : Nd → List Nd → Rat → Nd
  | n, [], _ => n
  | n, m :: t, y => if y < m.x then n else ev m t y
/-- the node that holds just ahead of y -/
def evB : Nd → List Nd → Rat → Nd
  | n, [], _ => n
  | n, m :: t, y => if m.x < y then evB m t y else n
/-- the value that a node gives at y -/
def vv (n : Nd) (y : Rat) : Rat := if n.x = y then n.v else lineAt n y
theorem asc_of : ∀ {t : List Nd} {n : Nd}, (n :: t).Pairwise (fun a b => a.x < b.x) → Asc n t
  | [], _, _ => trivial
  | m :: t, n, h => by
    obtain ⟨h1, h2⟩ := List.pairwise_cons.mp h
    exact ⟨h1 m List.mem_cons_self, asc_of h2⟩
theorem asc_lt : ∀ {t : List Nd} {n m : Nd}, Asc n t → m ∈ t → n.x < m.x
  | p :: t, n, m, h, hm => by
    rcases List.mem_cons.mp hm with q | q
    · rw [q]; exact h.1
    · have := asc_lt h.2 q
      have := h.1
      grind
theorem of_asc : ∀ {t : List Nd} {n : Nd}, Asc n t → (n :: t).Pairwise (fun a b => a.x < b.x)
  | [], _, _ => List.pairwise_singleton ..
  | m :: t, n, h => List.pairwise_cons.mpr ⟨fun _ hp => asc_lt h hp, of_asc h.2⟩
theorem srt_iff {n : Nd} {t : List Nd} : Srt (n :: t) ↔ n.x = 0 ∧ Asc n t := ⟨fun h => ⟨h.1, asc_of h.2⟩, fun h => ⟨h.1, of_asc h.2⟩⟩
theorem near_ev : ∀ {t : List Nd} {n : Nd} {y : Rat}, Asc n t → n.x ≤ y → ((n :: t).filter fun n => !decide (y < n.x)).getLast? = some (ev n t y)
  | [], n, y, _, hy => by
    have h : ¬ y < n.x := by grind
    simp [h, ev]
  | m :: t, n, y, h, hy => by
    have hn : ¬ y < n.x := by grind
    have e : ((n :: m :: t).filter fun n => !decide (y < n.x)) = n :: ((m :: t).filter fun n => !decide (y < n.x)) := by simp [hn]
    rw [e]
    by_cases hm : y < m.x
    · have z : ((m :: t).filter fun n => !decide (y < n.x)) = [] := by
        rw [List.filter_eq_nil_iff]
        intro p hp
        have : m.x ≤ p.x := by
          rcases List.mem_cons.mp hp with q | q
          · rw [q]; exact Rat.le_refl
          · have := asc_lt h.2 q
            grind
        have : y < p.x := by grind
        simp [this]
      rw [z]
      simp [ev, hm]
    · have r := near_ev h.2 (y := y) (by grind)
      rw [List.getLast?_cons, r]
      simp [ev, hm]
theorem near_eq {n : Nd} {t : List Nd} {y : Rat} (h : Asc n t) (hy : n.x ≤ y) : near (n :: t) y = ev n t y := by
  unfold near
  rw [near_ev h hy]
  rfl
theorem vl_eq {n : Nd} {t : List Nd} {y : Rat} (h : Asc n t) (hy : n.x ≤ y) : vl (n :: t) y = vv (ev n t y) y := by
  show vv (near (n :: t) y) y = _
  rw [near_eq h hy]
theorem bef_ev : ∀ {t : List Nd} {n : Nd} {y : Rat}, Asc n t → n.x < y → ((n :: t).filter fun n => decide (n.x < y)).getLast? = some (evB n t y)
  | [], n, y, _, hy => by simp [hy, evB]
  | m :: t, n, y, h, hy => by
    have e : ((n :: m :: t).filter fun n => decide (n.x < y)) = n :: ((m :: t).filter fun n => decide (n.x < y)) := by simp [hy]
    rw [e]
    by_cases hm : m.x < y
    · have r := bef_ev h.2 hm
      rw [List.getLast?_cons, r]
      simp [evB, hm]
    · have z : ((m :: t).filter fun n => decide (n.x < y)) = [] := by
        rw [List.filter_eq_nil_iff]
        intro p hp
        have : m.x ≤ p.x := by
          rcases List.mem_cons.mp hp with q | q
          · rw [q]; exact Rat.le_refl
          · have := asc_lt h.2 q
            grind
        have : ¬ p.x < y := by grind
        simp [this]
      rw [z]
      simp [evB, hm]
theorem ev_mem : ∀ {t : List Nd} {n : Nd} {y : Rat}, ev n t y ∈ n :: t
  | [], n, y => List.mem_cons_self
  | m :: t, n, y => by
    unfold ev
    split
    · exact List.mem_cons_self
    · exact List.mem_cons_of_mem _ ev_mem
theorem evB_mem : ∀ {t : List Nd} {n : Nd} {y : Rat}, evB n t y ∈ n :: t
  | [], n, y => List.mem_cons_self
  | m :: t, n, y => by
    unfold evB
    split
    · exact List.mem_cons_of_mem _ evB_mem
    · exact List.mem_cons_self
theorem ev_le : ∀ {t : List Nd} {n : Nd} {y : Rat}, Asc n t → n.x ≤ y → n.x ≤ (ev n t y).x ∧ (ev n t y).x ≤ y
  | [], n, y, _, hy => ⟨Rat.le_refl, hy⟩
  | m :: t, n, y, h, hy => by
    unfold ev
    split
    · exact ⟨Rat.le_refl, hy⟩
    · have := ev_le h.2 (y := y) (by grind)
      have := h.1
      exact ⟨by grind, by grind⟩
theorem evB_lt : ∀ {t : List Nd} {n : Nd} {y : Rat}, Asc n t → n.x < y → n.x ≤ (evB n t y).x ∧ (evB n t y).x < y
  | [], n, y, _, hy => ⟨Rat.le_refl, hy⟩
  | m :: t, n, y, h, hy => by
    unfold evB
    split
    · rename_i hm
      have := evB_lt h.2 hm
      have := h.1
      exact ⟨by grind, by grind⟩
    · exact ⟨Rat.le_refl, hy⟩
/-- no node between: the same one holds -/
theorem ev_same : ∀ {t : List Nd} {n : Nd} {q y : Rat}, q ≤ y → (∀ m ∈ t, m.x ≤ y → m.x ≤ q) → ev n t y = ev n t q
  | [], _, _, _, _, _ => rfl
  | m :: t, n, q, y, hq, h => by
    unfold ev
    by_cases hm : y < m.x
    · rw [if_pos hm, if_pos (by grind)]
    · have := h m List.mem_cons_self (by grind)
      rw [if_neg hm, if_neg (by grind)]
      exact ev_same hq fun p hp => h p (List.mem_cons_of_mem _ hp)
/-- just behind y the same node holds -/
theorem germ : ∀ {t : List Nd} {n : Nd} {y : Rat}, Asc n t → n.x ≤ y → ∃ d : Rat, 0 < d ∧ ∀ e, 0 < e → e < d → ev n t (y + e) = ev n t y
  | [], _, _, _, _ => ⟨1, by decide, fun _ _ _ => rfl⟩
  | m :: t, n, y, h, hy => by
    by_cases hm : y < m.x
    · refine ⟨m.x - y, by grind, fun e h1 h2 => ?_⟩
      unfold ev
      rw [if_pos (by grind), if_pos hm]
    · obtain ⟨d, hd, hg⟩ := germ h.2 (y := y) (by grind)
      refine ⟨d, hd, fun e h1 h2 => ?_⟩
      unfold ev
      rw [if_neg (by grind), if_neg hm]
      exact hg e h1 h2
theorem germB : ∀ {t : List Nd} {n : Nd} {y : Rat}, Asc n t → n.x < y → ∃ d : Rat, 0 < d ∧ ∀ e, 0 < e → e < d → ev n t (y - e) = evB n t y ∧ (evB n t y).x < y - e
  | [], n, y, _, hy => ⟨y - n.x, by grind, fun e h1 h2 => ⟨rfl, by show n.x < y - e; grind⟩⟩
  | m :: t, n, y, h, hy => by
    by_cases hm : m.x < y
    · obtain ⟨d, hd, hg⟩ := germB h.2 hm
      by_cases hd2 : d ≤ y - m.x
      · refine ⟨d, hd, fun e h1 h2 => ?_⟩
        unfold ev evB
        rw [if_neg (by grind), if_pos hm]
        exact hg e h1 h2
      · refine ⟨y - m.x, by grind, fun e h1 h2 => ?_⟩
        unfold ev evB
        rw [if_neg (by grind), if_pos hm]
        exact hg e h1 (by grind)
    · refine ⟨y - n.x, by grind, fun e h1 h2 => ?_⟩
      unfold ev evB
      rw [if_pos (by grind), if_neg hm]
      exact ⟨rfl, by grind⟩
theorem lineAt_add (n : Nd) (y e : Rat) : lineAt n (y + e) = lineAt n y + n.k * e := by
  unfold lineAt
  grind
theorem lineAt_sub (n : Nd) (y e : Rat) : lineAt n (y - e) = lineAt n y - n.k * e := by
  unfold lineAt
  grind
theorem lineAt_x (n : Nd) : lineAt n n.x = n.s := by
  unfold lineAt
  grind
theorem vv_lt {n : Nd} {y : Rat} (h : n.x < y) : vv n y = lineAt n y := by
  unfold vv
  rw [if_neg (by grind)]
theorem vv_x (n : Nd) : vv n n.x = n.v := if_pos rfl
/-- the value just behind y -/
theorem germ_v {t : List Nd} {n : Nd} {y : Rat} (h : Asc n t) (hy : n.x ≤ y) : ∃ d : Rat, 0 < d ∧ ∀ e, 0 < e → e < d → vv (ev n t (y + e)) (y + e) = lineAt (ev n t y) y + (ev n t y).k * e := by
  obtain ⟨d, hd, hg⟩ := germ h hy
  refine ⟨d, hd, fun e h1 h2 => ?_⟩
  have := (ev_le h hy).2
  rw [hg e h1 h2, vv_lt (by grind), lineAt_add]
theorem germ_vB {t : List Nd} {n : Nd} {y : Rat} (h : Asc n t) (hy : n.x < y) : ∃ d : Rat, 0 < d ∧ ∀ e, 0 < e → e < d → n.x ≤ y - e ∧ vv (ev n t (y - e)) (y - e) = lineAt (evB n t y) y - (evB n t y).k * e := by
  obtain ⟨d, hd, hg⟩ := germB h hy
  refine ⟨d, hd, fun e h1 h2 => ?_⟩
  obtain ⟨g1, g2⟩ := hg e h1 h2
  have := (evB_lt h hy).1
  refine ⟨by grind, ?_⟩
  rw [g1, vv_lt g2, lineAt_sub]
/-! ### needless nodes -/
def tri (n : Nd) (y : Rat) : Rat × Rat × Rat := (vv n y, lineAt n y, n.k)
def Th : Nd → List Nd → Prop
  | _, [] => True
  | n, m :: t => idle n m = false ∧ Th m t
theorem idle_iff {n m : Nd} : idle n m = true ↔ m.v = lineAt n m.x ∧ m.s = lineAt n m.x ∧ m.k = n.k := by
  unfold idle
  simp only [Bool.and_eq_true, decide_eq_true_eq]
theorem th_thin : ∀ (t : List Nd) (n : Nd), Th n (thin n t)
  | [], _ => trivial
  | m :: t, n => by
    unfold thin
    by_cases h : idle n m = true
    · rw [if_pos h]
      exact th_thin t n
    · rw [if_neg h]
      exact ⟨by simpa using h, th_thin t m⟩
theorem thin_id : ∀ {t : List Nd} {n : Nd}, Th n t → thin n t = t
  | [], _, _ => rfl
  | m :: t, n, h => by
    unfold thin
    rw [if_neg (by rw [h.1]; exact Bool.false_ne_true), thin_id h.2]
theorem asc_skip {n m : Nd} {t : List Nd} (h : Asc n (m :: t)) : Asc n t := by
  cases t with
  | nil => trivial
  | cons p t => exact ⟨by have := h.1; have := h.2.1; grind, h.2.2⟩
theorem asc_thin : ∀ {t : List Nd} {n : Nd}, Asc n t → Asc n (thin n t)
  | [], _, _ => trivial
  | m :: t, n, h => by
    unfold thin
    split
    · exact asc_thin (asc_skip h)
    · exact ⟨h.1, asc_thin h.2⟩
theorem line_idle {n m : Nd} (h : idle n m = true) (y : Rat) : lineAt m y = lineAt n y := by
  obtain ⟨h1, h2, h3⟩ := idle_iff.mp h
  unfold lineAt at h1 h2 ⊢
  rw [h2, h3]
  grind
theorem tri_skip {n m : Nd} {t : List Nd} {y : Rat} (h : Asc n (m :: t)) (hi : idle n m = true) (hy : n.x ≤ y) : tri (ev n t y) y = tri (ev n (m :: t) y) y := by
  have hnm := h.1
  obtain ⟨h1, h2, h3⟩ := idle_iff.mp hi
  have key : m.x ≤ y → tri n y = tri m y := by
    intro hmy
    unfold tri
    rw [line_idle hi, h3]
    by_cases e : m.x = y
    · have : vv m y = lineAt n y := by
        unfold vv
        rw [if_pos e, h1, e]
      rw [this, vv_lt (by grind)]
    · rw [vv_lt (by grind), vv_lt (by grind), line_idle hi]
  cases t with
  | nil =>
    unfold ev
    by_cases hm : y < m.x
    · rw [if_pos hm]
    · rw [if_neg hm]
      exact key (by grind)
  | cons p t =>
    have hmp := h.2.1
    show tri (if y < p.x then n else ev p t y) y = tri (if y < m.x then n else (if y < p.x then m else ev p t y)) y
    by_cases hm : y < m.x
    · rw [if_pos hm, if_pos (by grind)]
    · rw [if_neg hm]
      by_cases hp : y < p.x
      · rw [if_pos hp, if_pos hp]
        exact key (by grind)
      · rw [if_neg hp, if_neg hp]
theorem tri_thin : ∀ {t : List Nd} {n : Nd} {y : Rat}, Asc n t → n.x ≤ y → tri (ev n (thin n t) y) y = tri (ev n t y) y
  | [], _, _, _, _ => rfl
  | m :: t, n, y, h, hy => by
    unfold thin
    split
    · rename_i hi
      rw [tri_thin (asc_skip h) hy, tri_skip h hi hy]
    · unfold ev
      split
      · rfl
      · exact tri_thin h.2 (by grind)
/-- nodes without needless ones that give the same are the same -/
theorem uniq : ∀ {t t' : List Nd} {n n' : Nd}, Asc n t → Asc n' t' → n.x = n'.x → Th n t → Th n' t' → (∀ y, n.x ≤ y → tri (ev n t y) y = tri (ev n' t' y) y) → n :: t = n' :: t'
  | t, t', n, n', h, h', hx, th, th', he => by
    have ev0 : ∀ {t : List Nd} {n : Nd}, Asc n t → ev n t n.x = n := by
      intro t n h
      cases t with
      | nil => rfl
      | cons m t =>
        unfold ev
        rw [if_pos h.1]
    have e0 := he n.x Rat.le_refl
    rw [ev0 h, hx, ev0 h'] at e0
    have hnn : n = n' := by
      unfold tri at e0
      simp only [Prod.mk.injEq] at e0
      obtain ⟨a1, a2, a3⟩ := e0
      rw [vv_x, ← hx, vv_x] at a1
      rw [lineAt_x, ← hx, lineAt_x] at a2
      cases n
      cases n'
      simp only [Nd.mk.injEq]
      exact ⟨hx, a1, a2, a3⟩
    subst hnn
    -- a node of one that the other has not is needless
    have bad : ∀ {m : Nd} {s s' : List Nd}, Asc n (m :: s) → tri (ev n (m :: s) m.x) m.x = tri (ev n s' m.x) m.x → ev n s' m.x = n → idle n m = true := by
      intro m s s' ha hb hc
      have e1 : ev n (m :: s) m.x = m := by
        unfold ev
        rw [if_neg (by grind)]
        exact ev0 ha.2
      rw [e1, hc] at hb
      unfold tri at hb
      simp only [Prod.mk.injEq] at hb
      obtain ⟨a1, a2, a3⟩ := hb
      have := ha.1
      rw [vv_x, vv_lt ha.1] at a1
      rw [lineAt_x] at a2
      exact idle_iff.mpr ⟨a1, a2, a3⟩
    cases t with
    | nil =>
      cases t' with
      | nil => rfl
      | cons m s =>
        have := bad h' (he m.x (by have := h'.1; grind)).symm rfl
        rw [th'.1] at this
        cases this
    | cons m s =>
      cases t' with
      | nil =>
        have := bad h (he m.x (by have := h.1; grind)) rfl
        rw [th.1] at this
        cases this
      | cons m' s' =>
        by_cases c1 : m.x < m'.x
        · have := bad h (he m.x (by have := h.1; grind)) (by unfold ev; rw [if_pos c1])
          rw [th.1] at this
          cases this
        · by_cases c2 : m'.x < m.x
          · have := bad h' (he m'.x (by have := h'.1; grind)).symm (by unfold ev; rw [if_pos c2])
            rw [th'.1] at this
            cases this
          · have cx : m.x = m'.x := by grind
            have := uniq h.2 h'.2 cx th.2 th'.2 (fun y hy => by
              have q := he y (by have := h.1; grind)
              unfold ev at q
              rw [if_neg (by grind), if_neg (by grind)] at q
              exact q)
            rw [this]
termination_by t => t.length
/-- the value tells all -/
theorem tri_of_v {t t' : List Nd} {n n' : Nd} (h : Asc n t) (h' : Asc n' t') (hx : n.x = n'.x) (he : ∀ y, n.x ≤ y → vv (ev n t y) y = vv (ev n' t' y) y) (y : Rat) (hy : n.x ≤ y) : tri (ev n t y) y = tri (ev n' t' y) y := by
  obtain ⟨d, hd, hg⟩ := germ_v h hy
  obtain ⟨d', hd', hg'⟩ := germ_v h' (y := y) (by grind)
  have h0 := he y hy
  have both : ∀ e, 0 < e → e < d → e < d' → lineAt (ev n t y) y + (ev n t y).k * e = lineAt (ev n' t' y) y + (ev n' t' y).k * e := by
    intro e e0 e1 e2
    rw [← hg e e0 e1, ← hg' e e0 e2]
    exact he (y + e) (by grind)
  unfold tri
  rw [h0]
  generalize ev n t y = a at both
  generalize ev n' t' y = b at both
  by_cases hdd : d ≤ d'
  · have b1 := both (d / 2) (by grind) (by grind) (by grind)
    have b2 := both (d / 3) (by grind) (by grind) (by grind)
    have : a.k = b.k := by grind
    have : lineAt a y = lineAt b y := by grind
    simp [*]
  · have b1 := both (d' / 2) (by grind) (by grind) (by grind)
    have b2 := both (d' / 3) (by grind) (by grind) (by grind)
    have : a.k = b.k := by grind
    have : lineAt a y = lineAt b y := by grind
    simp [*]
/-- a curve as Curve makes it -/
structure Can (f : List Nd) : Prop where
  srt : Srt f
  th : mkC f = f
theorem Can.asc {n : Nd} {t : List Nd} (h : Can (n :: t)) : n.x = 0 ∧ Asc n t ∧ Th n t := by
  obtain ⟨h1, h2⟩ := srt_iff.mp h.srt
  refine ⟨h1, h2, ?_⟩
  have e := h.th
  show Th n t
  have e : thin n t = t := by
    have q : n :: thin n t = n :: t := e
    exact (List.cons.inj q).2
  rw [← e]
  exact th_thin t n
theorem can_mk {f : List Nd} (h : Srt f) : Can (mkC f) := by
  cases f with
  | nil => exact absurd h id
  | cons n t =>
    obtain ⟨h1, h2⟩ := srt_iff.mp h
    refine ⟨srt_iff.mpr ⟨h1, asc_thin h2⟩, ?_⟩
    show n :: thin n (thin n t) = n :: thin n t
    rw [thin_id (th_thin t n)]
theorem vl_mk {f : List Nd} (h : Srt f) {y : Rat} (hy : 0 ≤ y) : vl (mkC f) y = vl f y := by
  cases f with
  | nil => exact absurd h id
  | cons n t =>
    obtain ⟨h1, h2⟩ := srt_iff.mp h
    show vl (n :: thin n t) y = _
    rw [vl_eq (asc_thin h2) (by grind), vl_eq h2 (by grind)]
    have := tri_thin h2 (y := y) (by grind)
    unfold tri at this
    simp only [Prod.mk.injEq] at this
    exact this.1
theorem can_eq {f g : List Nd} (hf : Can f) (hg : Can g) (h : ∀ y, 0 ≤ y → vl f y = vl g y) : f = g := by
  cases f with
  | nil => exact absurd hf.srt id
  | cons n t =>
    cases g with
    | nil => exact absurd hg.srt id
    | cons n' t' =>
      obtain ⟨a1, a2, a3⟩ := hf.asc
      obtain ⟨b1, b2, b3⟩ := hg.asc
      refine uniq a2 b2 (by grind) a3 b3 (tri_of_v a2 b2 (by grind) fun y hy => ?_)
      rw [← vl_eq a2 hy, ← vl_eq b2 (by grind)]
      exact h y (by grind)
end K66
set_option autoImplicit false
/-! M2: incomes in order; sums, products, lines, the greater one of curves, as functions. Core only. -/
namespace K66
/-! ### insertion -/
def PW (l : List Rat) : Prop := l.Pairwise (· < ·)
theorem split_at (q : Rat) : ∀ {l : List Rat}, PW l → ∃ a b, l = a ++ b ∧ (∀ x ∈ a, x < q) ∧ (∀ x ∈ b, q ≤ x) ∧ (l.filter fun o => decide (o < q)).length = a.length
  | [], _ => ⟨[], [], rfl, by simp, by simp, rfl⟩
  | c :: l, h => by
    obtain ⟨h1, h2⟩ := List.pairwise_cons.mp h
    by_cases hc : c < q
    · obtain ⟨a, b, e, ha, hb, hl⟩ := split_at q h2
      refine ⟨c :: a, b, by rw [e]; rfl, ?_, hb, ?_⟩
      · intro x hx
        rcases List.mem_cons.mp hx with z | z
        · rw [z]; exact hc
        · exact ha x z
      · rw [List.filter_cons_of_pos (by simpa using hc), List.length_cons, List.length_cons, hl]
    · refine ⟨[], c :: l, rfl, by simp, ?_, ?_⟩
      · intro x hx
        rcases List.mem_cons.mp hx with z | z
        · rw [z]; grind
        · have := h1 x z
          grind
      · have z : ((c :: l).filter fun o => decide (o < q)) = [] := by
          rw [List.filter_eq_nil_iff]
          intro x hx
          have : q ≤ x := by
            rcases List.mem_cons.mp hx with z | z
            · rw [z]; grind
            · have := h1 x z
              grind
          have : ¬ x < q := by grind
          simp [this]
        rw [z]
        try rfl
theorem insA_ok {l : List Rat} {q : Rat} (h : PW l) : PW (insA l q) ∧ ∀ x, x ∈ insA l q ↔ x ∈ l ∨ x = q := by
  unfold insA
  by_cases hq : q ∈ l
  · rw [if_pos hq]
    refine ⟨h, fun x => ⟨.inl, ?_⟩⟩
    rintro (z | z)
    · exact z
    · rw [z]; exact hq
  · rw [if_neg hq]
    obtain ⟨a, b, e, ha, hb, hl⟩ := split_at q h
    rw [hl]
    have e1 : l.take a.length = a := by rw [e, List.take_left]
    have e2 : l.drop a.length = b := by rw [e, List.drop_left]
    rw [e1, e2]
    have hb' : ∀ x ∈ b, q < x := by
      intro x hx
      have h1 := hb x hx
      have h2 : x ≠ q := fun z => hq (by rw [e, ← z]; exact List.mem_append_right _ hx)
      grind
    rw [e] at h
    obtain ⟨p1, p2, p3⟩ := List.pairwise_append.mp h
    refine ⟨?_, fun x => ?_⟩
    · refine List.pairwise_append.mpr ⟨List.pairwise_append.mpr ⟨p1, List.pairwise_singleton .., ?_⟩, p2, ?_⟩
      · intro x hx y hy
        rw [List.mem_singleton.mp hy]
        exact ha x hx
      · intro x hx y hy
        rcases List.mem_append.mp hx with z | z
        · exact p3 x z y hy
        · rw [List.mem_singleton.mp z]
          exact hb' y hy
    · rw [e]
      simp only [List.mem_append, List.mem_singleton]
      constructor
      · rintro ((z | z) | z)
        · exact .inl (.inl z)
        · exact .inr z
        · exact .inl (.inr z)
      · rintro ((z | z) | z)
        · exact .inl (.inl z)
        · exact .inr z
        · exact .inl (.inr z)
theorem fold_ok : ∀ {qs l : List Rat}, PW l → PW (qs.foldl insA l) ∧ ∀ x, x ∈ qs.foldl insA l ↔ x ∈ l ∨ x ∈ qs
  | [], l, h => ⟨h, fun x => by simp⟩
  | q :: qs, l, h => by
    obtain ⟨h1, h2⟩ := insA_ok (q := q) h
    obtain ⟨h3, h4⟩ := fold_ok (qs := qs) h1
    refine ⟨h3, fun x => ?_⟩
    show x ∈ qs.foldl insA (insA l q) ↔ _
    rw [h4, h2, List.mem_cons]
    constructor
    · rintro ((z | z) | z)
      · exact .inl z
      · exact .inr (.inl z)
      · exact .inr (.inr z)
    · rintro (z | z | z)
      · exact .inl (.inl z)
      · exact .inl (.inr z)
      · exact .inr z
theorem incs_ok (f g : List Nd) : PW (incs f g) ∧ ∀ x, x ∈ incs f g ↔ (∃ n ∈ f, n.x = x) ∨ ∃ n ∈ g, n.x = x := by
  obtain ⟨h1, h2⟩ := fold_ok (qs := (f ++ g).map (·.x)) (l := []) List.Pairwise.nil
  refine ⟨h1, fun x => ?_⟩
  show x ∈ ((f ++ g).map (·.x)).foldl insA [] ↔ _
  rw [h2]
  simp only [List.not_mem_nil, false_or, List.map_append, List.mem_append, List.mem_map]
/-- ascending incomes from x on -/
def AscX : Rat → List Rat → Prop
  | _, [] => True
  | x, z :: t => x < z ∧ AscX z t
theorem ascX_of : ∀ {t : List Rat} {x : Rat}, PW (x :: t) → AscX x t
  | [], _, _ => trivial
  | z :: t, x, h => by
    obtain ⟨h1, h2⟩ := List.pairwise_cons.mp h
    exact ⟨h1 z List.mem_cons_self, ascX_of h2⟩
theorem ascX_lt : ∀ {t : List Rat} {x z : Rat}, AscX x t → z ∈ t → x < z
  | p :: t, x, z, h, hz => by
    rcases List.mem_cons.mp hz with q | q
    · rw [q]; exact h.1
    · have := ascX_lt h.2 q
      have := h.1
      grind
theorem srt_nonneg {f : List Nd} (h : Srt f) {n : Nd} (hn : n ∈ f) : 0 ≤ n.x := by
  cases f with
  | nil => cases hn
  | cons a t =>
    obtain ⟨h1, h2⟩ := srt_iff.mp h
    rcases List.mem_cons.mp hn with q | q
    · rw [q, h1]; exact Rat.le_refl
    · have := asc_lt h2 q
      grind
theorem srt_zero {f : List Nd} (h : Srt f) : ∃ n ∈ f, n.x = 0 := by
  cases f with
  | nil => exact absurd h id
  | cons a t => exact ⟨a, List.mem_cons_self, h.1⟩
theorem incs_cons {f g : List Nd} (hf : Srt f) (hg : Srt g) : ∃ xs, incs f g = 0 :: xs ∧ AscX 0 xs ∧ ∀ x, x ∈ 0 :: xs ↔ (∃ n ∈ f, n.x = x) ∨ ∃ n ∈ g, n.x = x := by
  obtain ⟨h1, h2⟩ := incs_ok f g
  have h0 : (0 : Rat) ∈ incs f g := (h2 0).mpr (.inl (srt_zero hf))
  have hge : ∀ x ∈ incs f g, 0 ≤ x := by
    intro x hx
    rcases (h2 x).mp hx with ⟨n, hn, e⟩ | ⟨n, hn, e⟩
    · rw [← e]; exact srt_nonneg hf hn
    · rw [← e]; exact srt_nonneg hg hn
  cases hI : incs f g with
  | nil => rw [hI] at h0; cases h0
  | cons a xs =>
    rw [hI] at h0 hge h1 h2
    have ha := hge a List.mem_cons_self
    have e : a = 0 := by
      rcases List.mem_cons.mp h0 with q | q
      · exact q.symm
      · have := (List.pairwise_cons.mp h1).1 0 q
        grind
    subst e
    exact ⟨xs, rfl, ascX_of h1, h2⟩
/-! ### a list of nodes, one at each income -/
/-- the income that holds at y -/
def exX : Rat → List Rat → Rat → Rat
  | x, [], _ => x
  | x, z :: t, y => if y < z then x else exX z t y
theorem exX_ok : ∀ {t : List Rat} {x y : Rat}, AscX x t → x ≤ y → exX x t y ∈ x :: t ∧ exX x t y ≤ y ∧ ∀ z ∈ x :: t, z ≤ y → z ≤ exX x t y
  | [], x, y, _, hy => ⟨List.mem_cons_self, hy, fun z hz _ => by rw [List.mem_singleton.mp hz]; exact Rat.le_refl⟩
  | p :: t, x, y, h, hy => by
    unfold exX
    by_cases hp : y < p
    · rw [if_pos hp]
      refine ⟨List.mem_cons_self, hy, fun z hz hzy => ?_⟩
      rcases List.mem_cons.mp hz with q | q
      · rw [q]; exact Rat.le_refl
      · rcases List.mem_cons.mp q with q | q
        · grind
        · have := ascX_lt h.2 q
          grind
    · rw [if_neg hp]
      obtain ⟨h1, h2, h3⟩ := exX_ok h.2 (y := y) (by grind)
      refine ⟨List.mem_cons_of_mem _ h1, h2, fun z hz hzy => ?_⟩
      rcases List.mem_cons.mp hz with q | q
      · have := h3 p List.mem_cons_self (by grind)
        have := h.1
        grind
      · exact h3 z q hzy
theorem ev_map (node : Rat → Nd) (hn : ∀ x, (node x).x = x) : ∀ {t : List Rat} {x y : Rat}, ev (node x) (t.map node) y = node (exX x t y)
  | [], _, _ => rfl
  | z :: t, x, y => by
    show (if y < (node z).x then node x else ev (node z) (t.map node) y) = node (if y < z then x else exX z t y)
    rw [hn]
    split
    · rfl
    · exact ev_map node hn
theorem asc_map (node : Rat → Nd) (hn : ∀ x, (node x).x = x) : ∀ {t : List Rat} {x : Rat}, AscX x t → Asc (node x) (t.map node)
  | [], _, _ => trivial
  | z :: t, x, h => ⟨by rw [hn, hn]; exact h.1, asc_map node hn h.2⟩
theorem srt_map {node : Rat → Nd} (hn : ∀ x, (node x).x = x) {xs : List Rat} (h : AscX 0 xs) : Srt ((0 :: xs).map node) := srt_iff.mpr ⟨hn 0, asc_map node hn h⟩
/-- between its nodes a curve runs along its line -/
theorem along {f : List Nd} (hf : Srt f) {x y : Rat} (hx : 0 ≤ x) (hxy : x ≤ y) (hno : ∀ n ∈ f, n.x ≤ y → n.x ≤ x) : near f y = near f x := by
  cases f with
  | nil => exact absurd hf id
  | cons n t =>
    obtain ⟨h1, h2⟩ := srt_iff.mp hf
    rw [near_eq h2 (by grind), near_eq h2 (by grind)]
    exact ev_same hxy fun m hm => hno m (List.mem_cons_of_mem _ hm)
theorem near_le {f : List Nd} (hf : Srt f) {y : Rat} (hy : 0 ≤ y) : near f y ∈ f ∧ (near f y).x ≤ y := by
  cases f with
  | nil => exact absurd hf id
  | cons n t =>
    obtain ⟨h1, h2⟩ := srt_iff.mp hf
    rw [near_eq h2 (by grind)]
    exact ⟨ev_mem, (ev_le h2 (by grind)).2⟩
theorem along_v {f : List Nd} (hf : Srt f) {x y : Rat} (hx : 0 ≤ x) (hxy : x < y) (hno : ∀ n ∈ f, n.x ≤ y → n.x ≤ x) : vl f y = st f x + sl f x * (y - x) ∧ st f y = st f x + sl f x * (y - x) ∧ sl f y = sl f x := by
  have e := along hf hx (by grind) hno
  have hle := (near_le hf hx).2
  have e2 : st f y = st f x + sl f x * (y - x) := by
    show lineAt (near f y) y = lineAt (near f x) x + (near f x).k * (y - x)
    rw [e]
    unfold lineAt
    grind
  refine ⟨?_, e2, by show (near f y).k = (near f x).k; rw [e]⟩
  rw [← e2]
  show vv (near f y) y = lineAt (near f y) y
  rw [e, vv_lt (by grind)]
/-- what a curve of nodes at incomes gives -/
theorem vl_map {node : Rat → Nd} (hn : ∀ x, (node x).x = x) {xs : List Rat} (h : AscX 0 xs) {y : Rat} (hy : 0 ≤ y) : near ((0 :: xs).map node) y = node (exX 0 xs y) := by
  show near (node 0 :: xs.map node) y = _
  rw [near_eq (asc_map node hn h) (by rw [hn]; exact hy), ev_map node hn]
/-- the frame: a curve made at all incomes of two gives a function that runs along with them -/
theorem frame {f g : List Nd} (hf : Srt f) (hg : Srt g) {node : Rat → Nd} (hn : ∀ x, (node x).x = x) (F : Rat → Rat)
    (hv : ∀ x, 0 ≤ x → (node x).v = F x) (hl : ∀ x y, 0 ≤ x → x < y → (∀ n ∈ f, n.x ≤ y → n.x ≤ x) → (∀ n ∈ g, n.x ≤ y → n.x ≤ x) → lineAt (node x) y = F y) :
    Srt ((incs f g).map node) ∧ ∀ y, 0 ≤ y → vl ((incs f g).map node) y = F y := by
  obtain ⟨xs, e, ha, hm⟩ := incs_cons hf hg
  rw [e]
  refine ⟨srt_map hn ha, fun y hy => ?_⟩
  obtain ⟨h1, h2, h3⟩ := exX_ok ha hy
  have h0 : 0 ≤ exX 0 xs y := h3 0 List.mem_cons_self hy
  show vv (near ((0 :: xs).map node) y) y = F y
  rw [vl_map hn ha hy]
  by_cases hq : exX 0 xs y = y
  · rw [hq]
    have := vv_x (node y)
    rw [hn] at this
    rw [this, hv y hy]
  · rw [vv_lt (by rw [hn]; grind)]
    refine hl _ y h0 (by grind) (fun n hnn hle => ?_) fun n hnn hle => ?_
    · exact h3 n.x ((hm n.x).mpr (.inl ⟨n, hnn, rfl⟩)) hle
    · exact h3 n.x ((hm n.x).mpr (.inr ⟨n, hnn, rfl⟩)) hle
theorem sum_ok {f g : List Nd} (hf : Srt f) (hg : Srt g) : Srt ((incs f g).map (sumNd f g)) ∧ ∀ y, 0 ≤ y → vl ((incs f g).map (sumNd f g)) y = vl f y + vl g y := by
  refine frame hf hg (fun _ => rfl) (fun y => vl f y + vl g y) (fun x _ => rfl) fun x y h0 hxy h1 h2 => ?_
  obtain ⟨a1, _, _⟩ := along_v hf h0 hxy h1
  obtain ⟨b1, _, _⟩ := along_v hg h0 hxy h2
  show lineAt (sumNd f g x) y = vl f y + vl g y
  rw [a1, b1]
  show (st f x + st g x) + (sl f x + sl g x) * (y - x) = _
  grind
theorem sumC_ok {f g : List Nd} (hf : Srt f) (hg : Srt g) : Can (sumC f g) ∧ ∀ y, 0 ≤ y → vl (sumC f g) y = vl f y + vl g y := by
  obtain ⟨h1, h2⟩ := sum_ok hf hg
  exact ⟨can_mk h1, fun y hy => (vl_mk h1 hy).trans (h2 y hy)⟩
theorem line_srt (k : Rat) : Srt (lineC k) := srt_iff.mpr ⟨rfl, trivial⟩
theorem line_can (k : Rat) : Can (lineC k) := ⟨line_srt k, rfl⟩
theorem line_vl (k : Rat) {y : Rat} (hy : 0 ≤ y) : vl (lineC k) y = k * y := by
  unfold lineC
  rw [vl_eq (n := ⟨0, 0, 0, k⟩) (t := []) trivial hy]
  show vv ⟨0, 0, 0, k⟩ y = _
  by_cases h : (0 : Rat) = y
  · subst h
    show (if (0 : Rat) = 0 then (0 : Rat) else _) = _
    rw [if_pos rfl]
    grind
  · rw [vv_lt (show (0 : Rat) < y by grind)]
    show 0 + k * (y - 0) = k * y
    grind
theorem sca_asc (q : Rat) : ∀ {t : List Nd} {n : Nd}, Asc n t → Asc (scaNd q n) (t.map (scaNd q))
  | [], _, _ => trivial
  | _ :: _, _, h => ⟨h.1, sca_asc q h.2⟩
theorem sca_ev (q : Rat) : ∀ {t : List Nd} {n : Nd} {y : Rat}, ev (scaNd q n) (t.map (scaNd q)) y = scaNd q (ev n t y)
  | [], _, _ => rfl
  | m :: t, n, y => by
    show (if y < m.x then scaNd q n else ev (scaNd q m) (t.map (scaNd q)) y) = scaNd q (if y < m.x then n else ev m t y)
    split
    · rfl
    · exact sca_ev q
theorem sca_ok {f : List Nd} (hf : Srt f) (q : Rat) : Srt (f.map (scaNd q)) ∧ ∀ y, 0 ≤ y → vl (f.map (scaNd q)) y = vl f y * q := by
  cases f with
  | nil => exact absurd hf id
  | cons n t =>
    obtain ⟨h1, h2⟩ := srt_iff.mp hf
    refine ⟨srt_iff.mpr ⟨h1, sca_asc q h2⟩, fun y hy => ?_⟩
    show vl (scaNd q n :: t.map (scaNd q)) y = _
    rw [vl_eq (sca_asc q h2) (by show n.x ≤ y; grind), vl_eq h2 (by grind), sca_ev]
    generalize ev n t y = a
    unfold vv
    show (if a.x = y then a.v * q else a.s * q + a.k * q * (y - a.x)) = (if a.x = y then a.v else a.s + a.k * (y - a.x)) * q
    split
    · rfl
    · grind
theorem scaC_ok {f : List Nd} (hf : Srt f) (q : Rat) : Can (scaC f q) ∧ ∀ y, 0 ≤ y → vl (scaC f q) y = vl f y * q := by
  obtain ⟨h1, h2⟩ := sca_ok hf q
  exact ⟨can_mk h1, fun y hy => (vl_mk h1 hy).trans (h2 y hy)⟩
theorem subC_ok {f : List Nd} (hf : Srt f) (l : Rat) : Can (subC f (lineC l)) ∧ ∀ y, 0 ≤ y → vl (subC f (lineC l)) y = vl f y - l * y := by
  obtain ⟨h1, h2⟩ := scaC_ok (line_srt l) (-1)
  obtain ⟨h3, h4⟩ := sumC_ok hf h1.srt
  refine ⟨h3, fun y hy => ?_⟩
  show vl (sumC f (scaC (lineC l) (-1))) y = _
  rw [h4 y hy, h2 y hy, line_vl l hy]
  grind
/-! ### the greater one -/
theorem larN_cons' (f g : List Nd) (y : Rat) (r : List Rat) : larN f g (y :: r) = larNd f g y :: (larX f g y r.head? ++ larN f g r) := rfl
/-- the two pieces from x on: what the nodes give ahead of the next income -/
theorem lar_piece {x a1 a2 b1 b2 : Rat} {y : Rat} (hxy : x < y) :
    (cross x a1 a2 b1 b2 = none → (larP a1 a2 b1 b2).1 + (larP a1 a2 b1 b2).2 * (y - x) = lar (a1 + a2 * (y - x)) (b1 + b2 * (y - x))) ∧
    (∀ z, cross x a1 a2 b1 b2 = some z → x < z ∧ (y < z → (larP a1 a2 b1 b2).1 + (larP a1 a2 b1 b2).2 * (y - x) = lar (a1 + a2 * (y - x)) (b1 + b2 * (y - x))) ∧
      (z ≤ y → (a1 + a2 * (z - x)) + (if a2 < b2 then b2 else a2) * (y - z) = lar (a1 + a2 * (y - x)) (b1 + b2 * (y - x)))) := by
  have hp : 0 < y - x := by grind
  have mono : ∀ {u v : Rat}, u ≤ v → u * (y - x) ≤ v * (y - x) := fun h => mul_mono h (by grind)
  unfold cross larP lar
  by_cases h0 : a1 - b1 = 0 ∨ b2 - a2 = 0
  · rw [if_pos h0]
    refine ⟨fun _ => ?_, fun z hz => (by cases hz)⟩
    rcases h0 with h0 | h0
    · have e : a1 = b1 := by grind
      subst e
      rw [if_pos rfl]
      by_cases h : a2 < b2
      · have := mono (Rat.le_of_lt h)
        have h3 : a2 * (y - x) < b2 * (y - x) := Rat.mul_lt_mul_of_pos_right h hp
        rw [if_pos h, if_pos (by grind)]
      · have := mono (Rat.not_lt.mp h)
        rw [if_neg h, if_neg (by grind)]
    · have e : a2 = b2 := by grind
      subst e
      by_cases h : a1 = b1
      · rw [if_pos h, if_neg (by grind), if_neg (by grind)]
      · rw [if_neg h]
        by_cases h2 : a1 < b1
        · rw [if_pos h2, if_pos (by grind)]
        · rw [if_neg h2, if_neg (by grind)]
  · rw [if_neg h0]
    have h01 : a1 ≠ b1 := fun z => h0 (.inl (by grind))
    have h02 : b2 - a2 ≠ 0 := fun z => h0 (.inr z)
    rw [if_neg h01]
    have hw : (a1 - b1) / (b2 - a2) * (b2 - a2) = a1 - b1 := by grind
    generalize (a1 - b1) / (b2 - a2) = w at hw
    by_cases hpos : 0 < w
    · rw [if_pos hpos]
      refine ⟨fun z => (by cases z), fun z hz => ?_⟩
      obtain rfl : x + w = z := Option.some.inj hz
      by_cases hk : a2 < b2
      · have hd : 0 < b2 - a2 := by grind
        have h1 : 0 < w * (b2 - a2) := Rat.mul_pos hpos hd
        have h2 : ¬ a1 < b1 := by grind
        rw [if_neg h2, if_pos hk]
        refine ⟨by grind, fun hy => ?_, fun hy => ?_⟩
        · have h3 : (y - x) * (b2 - a2) < w * (b2 - a2) := Rat.mul_lt_mul_of_pos_right (by grind) hd
          rw [if_neg (by grind)]
        · have h3 : w * (b2 - a2) ≤ (y - x) * (b2 - a2) := mul_mono (by grind) (by grind)
          by_cases h4 : a1 + a2 * (y - x) < b1 + b2 * (y - x)
          · rw [if_pos h4]
            grind
          · rw [if_neg h4]
            have h5 : w * (b2 - a2) = (y - x) * (b2 - a2) := by grind
            have h6 : (w - (y - x)) * (b2 - a2) = 0 := by grind
            have h7 : w - (y - x) = 0 := by
              rcases Rat.mul_eq_zero.mp h6 with q | q
              · exact q
              · exact absurd q h02
            grind
      · have hd : 0 < a2 - b2 := by grind
        have h1 : 0 < w * (a2 - b2) := Rat.mul_pos hpos hd
        have h2 : a1 < b1 := by grind
        rw [if_pos h2, if_neg hk]
        refine ⟨by grind, fun hy => ?_, fun hy => ?_⟩
        · have h3 : (y - x) * (a2 - b2) < w * (a2 - b2) := Rat.mul_lt_mul_of_pos_right (by grind) hd
          rw [if_pos (by grind)]
        · have h3 : w * (a2 - b2) ≤ (y - x) * (a2 - b2) := mul_mono (by grind) (by grind)
          rw [if_neg (by grind)]
          grind
    · rw [if_neg hpos]
      refine ⟨fun _ => ?_, fun z hz => (by cases hz)⟩
      by_cases hk : a2 < b2
      · have h1 : w * (b2 - a2) ≤ 0 * (b2 - a2) := mul_mono (by grind) (by grind)
        have h3 := mono (Rat.le_of_lt hk)
        have h2 : a1 < b1 := by grind
        rw [if_pos h2, if_pos (by grind)]
      · have h1 : w * (a2 - b2) ≤ 0 * (a2 - b2) := mul_mono (by grind) (by grind)
        have h3 := mono (Rat.not_lt.mp hk)
        have h2 : ¬ a1 < b1 := by grind
        rw [if_neg h2, if_neg (by grind)]
theorem lar_x (f g : List Nd) (y : Rat) : (larNd f g y).x = y := rfl
/-- the nodes of the greater one, from an income on -/
theorem lar_list {f g : List Nd} (hf : Srt f) (hg : Srt g) : ∀ {xs : List Rat} {x : Rat}, 0 ≤ x → AscX x xs → (∀ n ∈ f, x < n.x → n.x ∈ xs) → (∀ n ∈ g, x < n.x → n.x ∈ xs) →
    Asc (larNd f g x) (larX f g x xs.head? ++ larN f g xs) ∧ ∀ y, x ≤ y → vv (ev (larNd f g x) (larX f g x xs.head? ++ larN f g xs) y) y = lar (vl f y) (vl g y)
  | xs, x, h0, ha, h1, h2 => by
    -- what holds ahead of the next income
    have nof : ∀ (h : List Nd) (y : Rat), (∀ n ∈ h, x < n.x → n.x ∈ xs) → (∀ z, xs.head? = some z → y < z) → ∀ n ∈ h, n.x ≤ y → n.x ≤ x := by
      intro h y hh hz n hn hle
      refine Rat.not_lt.mp fun hlt => ?_
      have hm := hh n hn hlt
      cases xs with
      | nil => cases hm
      | cons z t =>
        have hyz := hz z rfl
        rcases List.mem_cons.mp hm with q | q
        · grind
        · have := ascX_lt ha.2 q
          grind
    have at_x : vv (larNd f g x) x = lar (vl f x) (vl g x) := vv_x (larNd f g x)
    have lines : ∀ y, x < y → (∀ z, xs.head? = some z → y < z) → lar (vl f y) (vl g y) = lar (st f x + sl f x * (y - x)) (st g x + sl g x * (y - x)) := by
      intro y hxy hz
      rw [(along_v hf h0 hxy (nof f y h1 hz)).1, (along_v hg h0 hxy (nof g y h2 hz)).1]
    have first : ∀ y, x < y → (∀ z, xs.head? = some z → y < z) → (∀ z, cross x (st f x) (sl f x) (st g x) (sl g x) = some z → y < z) → vv (larNd f g x) y = lar (vl f y) (vl g y) := by
      intro y hxy hz hc
      rw [vv_lt (by rw [lar_x]; exact hxy), lines y hxy hz]
      obtain ⟨p1, p2⟩ := lar_piece (a1 := st f x) (a2 := sl f x) (b1 := st g x) (b2 := sl g x) hxy
      show (larP (st f x) (sl f x) (st g x) (sl g x)).1 + (larP (st f x) (sl f x) (st g x) (sl g x)).2 * (y - x) = _
      cases hcr : cross x (st f x) (sl f x) (st g x) (sl g x) with
      | none => exact p1 hcr
      | some z => exact (p2 z hcr).2.1 (hc z hcr)
    -- the rest
    have rest : ∀ (w : Rat) (t : List Rat), xs = w :: t → Asc (larNd f g w) (larX f g w t.head? ++ larN f g t) ∧ ∀ y, w ≤ y → vv (ev (larNd f g w) (larX f g w t.head? ++ larN f g t) y) y = lar (vl f y) (vl g y) := by
      intro w t e
      subst e
      refine lar_list hf hg (by have := ha.1; grind) ha.2 (fun n hn hlt => ?_) fun n hn hlt => ?_
      · rcases List.mem_cons.mp (h1 n hn (by have := ha.1; grind)) with q | q
        · grind
        · exact q
      · rcases List.mem_cons.mp (h2 n hn (by have := ha.1; grind)) with q | q
        · grind
        · exact q
    by_cases hX : ∃ z, cross x (st f x) (sl f x) (st g x) (sl g x) = some z ∧ (match xs.head? with | none => true | some u => decide (z < u)) = true
    · obtain ⟨z, hc, hz⟩ := hX
      have eX : larX f g x xs.head? = [⟨z, lineAt ⟨x, vl f x, st f x, sl f x⟩ z, lineAt ⟨x, vl f x, st f x, sl f x⟩ z, if sl f x < sl g x then sl g x else sl f x⟩] := by
        unfold larX
        rw [hc]
        exact if_pos hz
      rw [eX]
      have hxz : x < z := ((lar_piece (y := x + 1) (a1 := st f x) (a2 := sl f x) (b1 := st g x) (b2 := sl g x) (by grind)).2 z hc).1
      have hzn : ∀ u, xs.head? = some u → z < u := by
        intro u hu
        rw [hu] at hz
        exact of_decide_eq_true hz
      have second : ∀ y, z ≤ y → (∀ u, xs.head? = some u → y < u) → vv ⟨z, lineAt ⟨x, vl f x, st f x, sl f x⟩ z, lineAt ⟨x, vl f x, st f x, sl f x⟩ z, if sl f x < sl g x then sl g x else sl f x⟩ y = lar (vl f y) (vl g y) := by
        intro y hy hu
        rw [lines y (by grind) hu]
        have p := ((lar_piece (y := y) (a1 := st f x) (a2 := sl f x) (b1 := st g x) (b2 := sl g x) (by grind)).2 z hc).2.2 hy
        rw [← p]
        unfold vv
        show (if z = y then st f x + sl f x * (z - x) else (st f x + sl f x * (z - x)) + (if sl f x < sl g x then sl g x else sl f x) * (y - z)) = _
        split
        · rename_i e
          subst e
          grind
        · rfl
      cases xs with
      | nil =>
        refine ⟨⟨hxz, trivial⟩, fun y hy => ?_⟩
        show vv (if y < z then larNd f g x else _) y = _
        by_cases hyz : y < z
        · rw [if_pos hyz]
          by_cases e : x = y
          · rw [← e]; exact at_x
          · exact first y (by grind) (fun _ q => (by cases q)) fun z' hz' => by
              rw [hc] at hz'
              cases hz'
              exact hyz
        · rw [if_neg hyz]
          exact second y (by grind) fun _ q => (by cases q)
      | cons w t =>
        obtain ⟨r1, r2⟩ := rest w t rfl
        have hzw := hzn w rfl
        refine ⟨⟨hxz, hzw, r1⟩, fun y hy => ?_⟩
        show vv (if y < z then larNd f g x else (if y < w then _ else ev (larNd f g w) (larX f g w t.head? ++ larN f g t) y)) y = _
        by_cases hyz : y < z
        · rw [if_pos hyz]
          by_cases e : x = y
          · rw [← e]; exact at_x
          · exact first y (by grind) (fun u q => by cases q; grind) fun z' hz' => by
              rw [hc] at hz'
              cases hz'
              exact hyz
        · rw [if_neg hyz]
          by_cases hyw : y < w
          · rw [if_pos hyw]
            exact second y (by grind) fun u q => by cases q; exact hyw
          · rw [if_neg hyw]
            exact r2 y (by grind)
    · have eX : larX f g x xs.head? = [] := by
        unfold larX
        cases hc : cross x (st f x) (sl f x) (st g x) (sl g x) with
        | none => rfl
        | some z => exact if_neg fun e => hX ⟨z, hc, e⟩
      rw [eX, List.nil_append]
      have hno : ∀ z, cross x (st f x) (sl f x) (st g x) (sl g x) = some z → ∃ u, xs.head? = some u ∧ u ≤ z := by
        intro z hc
        cases hh : xs.head? with
        | none => exact absurd ⟨z, hc, by rw [hh]⟩ hX
        | some u =>
          refine ⟨u, rfl, Rat.not_lt.mp fun hlt => hX ⟨z, hc, ?_⟩⟩
          rw [hh]
          exact decide_eq_true hlt
      cases xs with
      | nil =>
        refine ⟨trivial, fun y hy => ?_⟩
        show vv (larNd f g x) y = _
        by_cases e : x = y
        · rw [← e]; exact at_x
        · exact first y (by grind) (fun _ q => (by cases q)) fun z hz => by
            obtain ⟨u, hu, _⟩ := hno z hz
            cases hu
      | cons w t =>
        obtain ⟨r1, r2⟩ := rest w t rfl
        refine ⟨⟨ha.1, r1⟩, fun y hy => ?_⟩
        show vv (if y < w then larNd f g x else ev (larNd f g w) (larX f g w t.head? ++ larN f g t) y) y = _
        by_cases hyw : y < w
        · rw [if_pos hyw]
          by_cases e : x = y
          · rw [← e]; exact at_x
          · exact first y (by grind) (fun u q => by cases q; exact hyw) fun z hz => by
              obtain ⟨u, hu, hle⟩ := hno z hz
              cases hu
              grind
        · rw [if_neg hyw]
          exact r2 y (by grind)
termination_by xs => xs.length
decreasing_by
  simp [e]
theorem lar_ok {f g : List Nd} (hf : Srt f) (hg : Srt g) : Srt (larN f g (incs f g)) ∧ ∀ y, 0 ≤ y → vl (larN f g (incs f g)) y = lar (vl f y) (vl g y) := by
  obtain ⟨xs, e, ha, hm⟩ := incs_cons hf hg
  have pos : ∀ h : List Nd, (∀ n ∈ h, n.x ∈ 0 :: xs) → ∀ n ∈ h, 0 < n.x → n.x ∈ xs := by
    intro h hh n hn hlt
    rcases List.mem_cons.mp (hh n hn) with q | q
    · grind
    · exact q
  obtain ⟨h1, h2⟩ := lar_list hf hg (x := 0) Rat.le_refl ha (pos f fun n hn => (hm n.x).mpr (.inl ⟨n, hn, rfl⟩)) (pos g fun n hn => (hm n.x).mpr (.inr ⟨n, hn, rfl⟩))
  rw [e, larN_cons']
  refine ⟨srt_iff.mpr ⟨rfl, h1⟩, fun y hy => ?_⟩
  rw [vl_eq h1 hy]
  exact h2 y hy
theorem larC_ok {f g : List Nd} (hf : Srt f) (hg : Srt g) : Can (larC f g) ∧ ∀ y, 0 ≤ y → vl (larC f g) y = lar (vl f y) (vl g y) := by
  obtain ⟨h1, h2⟩ := lar_ok hf hg
  exact ⟨can_mk h1, fun y hy => (vl_mk h1 hy).trans (h2 y hy)⟩
end K66
set_option autoImplicit false
/-! M3: the highest so far and the highest behind, as least functions. Core only. -/
namespace K66
theorem lar_l (a b : Rat) : a ≤ lar a b := by
  unfold lar
  split <;> grind
theorem lar_r (a b : Rat) : b ≤ lar a b := by
  unfold lar
  split <;> grind
theorem lar_le {a b c : Rat} (h1 : a ≤ c) (h2 : b ≤ c) : lar a b ≤ c := by
  unfold lar
  split <;> assumption
theorem lar_eq_l {a b : Rat} (h : b ≤ a) : lar a b = a := by
  unfold lar
  rw [if_neg (by grind)]
theorem lar_eq_r {a b : Rat} (h : a ≤ b) : lar a b = b := by
  unfold lar
  split <;> grind
theorem line_le_up {n : Nd} {y z : Rat} (hk : 0 ≤ n.k) (h : y ≤ z) : lineAt n y ≤ lineAt n z := by
  have := mul_mono (a := 0) (b := n.k) (c := z - y) hk (by grind)
  unfold lineAt
  grind
theorem line_le_dn {n : Nd} {y z : Rat} (hk : n.k ≤ 0) (h : y ≤ z) : lineAt n z ≤ lineAt n y := by
  have := mul_mono (a := n.k) (b := 0) (c := z - y) hk (by grind)
  unfold lineAt
  grind
theorem vv_piece {n m : Nd} {t : List Nd} {y : Rat} (h : n.x < y) (hm : y < m.x) : vv (ev n (m :: t) y) y = lineAt n y := by
  unfold ev
  rw [if_pos hm, vv_lt h]
theorem ev_first {n m : Nd} {t : List Nd} {y : Rat} (hm : y < m.x) : ev n (m :: t) y = n := if_pos hm
theorem ev_next {n m : Nd} {t : List Nd} {y : Rat} (hm : ¬ y < m.x) : ev n (m :: t) y = ev m t y := if_neg hm
/-! ### the highest so far -/
def hsP (h : Rat) (n : Nd) (y : Rat) : Rat := if n.x = y then lar h n.v else lar (hsStart h n) (lineAt n y)
def hsF : Rat → Nd → List Nd → Rat → Rat
  | h, n, [], y => hsP h n y
  | h, n, m :: t, y => if y < m.x then hsP h n y else hsF (lar (hsStart h n) (lineAt n m.x)) m t y
theorem hsS_ge (h : Rat) (n : Nd) : h ≤ hsStart h n ∧ n.v ≤ hsStart h n ∧ n.s ≤ hsStart h n ∧ lar h n.v ≤ hsStart h n := by
  unfold hsStart
  have := lar_l h n.v
  have := lar_r h n.v
  have := lar_l (lar h n.v) n.s
  have := lar_r (lar h n.v) n.s
  grind
theorem hsP_lt {h : Rat} {n : Nd} {y : Rat} (hy : n.x < y) : hsP h n y = lar (hsStart h n) (lineAt n y) := by
  unfold hsP
  rw [if_neg (by grind)]
theorem hsP_x (h : Rat) (n : Nd) : hsP h n n.x = lar h n.v := if_pos rfl
theorem line_s {n : Nd} {y : Rat} (hk : n.k ≤ 0) (hy : n.x ≤ y) : lineAt n y ≤ n.s := by
  have := line_le_dn hk hy
  rw [lineAt_x] at this
  exact this
theorem hsH_is {h u : Rat} {n : Nd} (hu : n.x ≤ u) : hsH h n (some u) = lar (hsStart h n) (lineAt n u) := by
  unfold hsH
  by_cases hk : 0 < n.k
  · rw [decide_eq_true hk]
    rfl
  · rw [decide_eq_false hk, lar_eq_l]
    · rfl
    · have := line_s (n := n) (y := u) (by grind) hu
      have := (hsS_ge h n).2.2.1
      grind
theorem hs_cons (h : Rat) (n : Nd) (t : List Nd) : hsN h (n :: t) = hsNd h n :: (hsX h n (t.head?.map (·.x)) ++ hsN (hsH h n (t.head?.map (·.x))) t) := rfl
theorem hs_list : ∀ {t : List Nd} {n : Nd} {h : Rat}, Asc n t →
    Asc (hsNd h n) (hsX h n (t.head?.map (·.x)) ++ hsN (hsH h n (t.head?.map (·.x))) t) ∧ ∀ y, n.x ≤ y → vv (ev (hsNd h n) (hsX h n (t.head?.map (·.x)) ++ hsN (hsH h n (t.head?.map (·.x))) t) y) y = hsF h n t y
  | t, n, h, ha => by
    have at_x : vv (hsNd h n) n.x = lar h n.v := vv_x (hsNd h n)
    obtain ⟨g1, g2, g3, g4⟩ := hsS_ge h n
    have rest : ∀ (m : Nd) (s : List Nd), t = m :: s → Asc (hsNd (hsH h n (some m.x)) m) (hsX (hsH h n (some m.x)) m (s.head?.map (·.x)) ++ hsN (hsH (hsH h n (some m.x)) m (s.head?.map (·.x))) s) ∧ ∀ y, m.x ≤ y →
        vv (ev (hsNd (hsH h n (some m.x)) m) (hsX (hsH h n (some m.x)) m (s.head?.map (·.x)) ++ hsN (hsH (hsH h n (some m.x)) m (s.head?.map (·.x))) s) y) y = hsF (lar (hsStart h n) (lineAt n m.x)) m s y := by
      intro m s e
      subst e
      have := hs_list (h := hsH h n (some m.x)) ha.2
      rw [hsH_is (by have := ha.1; grind)] at this ⊢
      exact this
    by_cases hX : 0 < n.k ∧ hsFollows h n = false ∧ (match t.head?.map (·.x) with | none => true | some u => decide (hsZ h n < u)) = true
    · obtain ⟨hk, hf, hz⟩ := hX
      have eX : hsX h n (t.head?.map (·.x)) = [⟨hsZ h n, hsStart h n, hsStart h n, n.k⟩] := by
        unfold hsX
        rw [hf, decide_eq_true hk]
        exact if_pos hz
      rw [eX]
      have hne : hsStart h n ≠ n.s := by
        intro z
        unfold hsFollows at hf
        rw [decide_eq_true hk, decide_eq_true z] at hf
        cases hf
      have hw : (hsStart h n - n.s) / n.k * n.k = hsStart h n - n.s := by
        have : n.k ≠ 0 := by grind
        grind
      have hZ : hsZ h n = n.x + (hsStart h n - n.s) / n.k := rfl
      have hlz : lineAt n (hsZ h n) = hsStart h n := by
        unfold lineAt
        rw [hZ]
        grind
      have hxz : n.x < hsZ h n := by
        have : 0 < (hsStart h n - n.s) / n.k := by
          rw [Rat.div_def]
          exact Rat.mul_pos (by grind) (Rat.inv_pos.mpr hk)
        grind
      have k0 : (hsNd h n).k = 0 := by
        show (if hsFollows h n = true then n.k else 0) = 0
        rw [hf]
        rfl
      have first : ∀ y, n.x ≤ y → y < hsZ h n → vv (hsNd h n) y = hsP h n y := by
        intro y hy hyz
        by_cases e : n.x = y
        · rw [← e, at_x, hsP_x]
        · rw [vv_lt (n := hsNd h n) (show n.x < y by grind), hsP_lt (by grind), lar_eq_l]
          · show hsStart h n + (hsNd h n).k * (y - n.x) = _
            rw [k0]
            grind
          · have := line_le_up (n := n) (y := y) (z := hsZ h n) (by grind) (by grind)
            grind
      have second : ∀ y, hsZ h n ≤ y → vv ⟨hsZ h n, hsStart h n, hsStart h n, n.k⟩ y = hsP h n y := by
        intro y hy
        have h1 := line_le_up (n := n) (y := hsZ h n) (z := y) (by grind) (by grind)
        rw [hsP_lt (by grind), lar_eq_r (by grind)]
        unfold vv
        show (if hsZ h n = y then hsStart h n else hsStart h n + n.k * (y - hsZ h n)) = lineAt n y
        split
        · rename_i e
          rw [← e, hlz]
        · rw [← hlz]
          unfold lineAt
          grind
      cases t with
      | nil =>
        refine ⟨⟨hxz, trivial⟩, fun y hy => ?_⟩
        show vv (if y < hsZ h n then hsNd h n else _) y = hsP h n y
        split
        · rename_i q
          exact first y hy q
        · rename_i q
          exact second y (by grind)
      | cons m s =>
        obtain ⟨r1, r2⟩ := rest m s rfl
        have hzm : hsZ h n < m.x := of_decide_eq_true hz
        refine ⟨⟨hxz, hzm, r1⟩, fun y hy => ?_⟩
        show vv (if y < hsZ h n then hsNd h n else (if y < m.x then _ else ev (hsNd (hsH h n (some m.x)) m) _ y)) y = (if y < m.x then hsP h n y else hsF _ m s y)
        by_cases q1 : y < hsZ h n
        · rw [if_pos q1, if_pos (by grind)]
          exact first y hy q1
        · rw [if_neg q1]
          by_cases q2 : y < m.x
          · rw [if_pos q2, if_pos q2]
            exact second y (by grind)
          · rw [if_neg q2, if_neg q2]
            exact r2 y (by grind)
    · have eX : hsX h n (t.head?.map (·.x)) = [] := by
        unfold hsX
        by_cases hk : 0 < n.k
        · cases hf : hsFollows h n with
          | true => simp
          | false =>
            rw [decide_eq_true hk]
            exact if_neg fun e => hX ⟨hk, hf, e⟩
        · rw [decide_eq_false hk]
          rfl
      rw [eX, List.nil_append]
      have first : ∀ y, n.x ≤ y → (∀ u, t.head?.map (·.x) = some u → y < u) → vv (hsNd h n) y = hsP h n y := by
        intro y hy hu
        by_cases e : n.x = y
        · rw [← e, at_x, hsP_x]
        · rw [vv_lt (n := hsNd h n) (show n.x < y by grind), hsP_lt (by grind)]
          show hsStart h n + (if hsFollows h n = true then n.k else 0) * (y - n.x) = _
          by_cases hk : 0 < n.k
          · cases hf : hsFollows h n with
            | true =>
              have hs : hsStart h n = n.s := by
                unfold hsFollows at hf
                rw [decide_eq_true hk] at hf
                exact of_decide_eq_true hf
              have h1 := line_le_up (n := n) (y := n.x) (z := y) (by grind) (by grind)
              rw [lineAt_x] at h1
              rw [if_pos rfl, lar_eq_r (by grind), hs]
              rfl
            | false =>
              -- the meeting lies behind the next node
              obtain ⟨u, hun, huz⟩ : ∃ u, t.head?.map (·.x) = some u ∧ u ≤ hsZ h n := by
                cases hh : t.head?.map (·.x) with
                | none => exact absurd ⟨hk, hf, by rw [hh]⟩ hX
                | some u =>
                  refine ⟨u, rfl, Rat.not_lt.mp fun hlt => hX ⟨hk, hf, ?_⟩⟩
                  rw [hh]
                  exact decide_eq_true hlt
              have hyu := hu u hun
              have hw : (hsStart h n - n.s) / n.k * n.k = hsStart h n - n.s := by
                have : n.k ≠ 0 := by grind
                grind
              have hlz : lineAt n (hsZ h n) = hsStart h n := by
                unfold lineAt hsZ
                grind
              have h1 := line_le_up (n := n) (y := y) (z := hsZ h n) (by grind) (by grind)
              rw [if_neg Bool.false_ne_true, lar_eq_l (by grind)]
              grind
          · have hf : hsFollows h n = false := by
              unfold hsFollows
              rw [decide_eq_false hk]
              rfl
            have := line_s (n := n) (y := y) (by grind) hy
            rw [hf, if_neg Bool.false_ne_true, lar_eq_l (by grind)]
            grind
      cases t with
      | nil => exact ⟨trivial, fun y hy => first y hy fun u q => (by cases q)⟩
      | cons m s =>
        obtain ⟨r1, r2⟩ := rest m s rfl
        refine ⟨⟨ha.1, r1⟩, fun y hy => ?_⟩
        show vv (if y < m.x then hsNd h n else ev (hsNd (hsH h n (some m.x)) m) _ y) y = (if y < m.x then hsP h n y else hsF _ m s y)
        by_cases q2 : y < m.x
        · rw [if_pos q2, if_pos q2]
          exact first y hy fun u q => (by cases q; exact q2)
        · rw [if_neg q2, if_neg q2]
          exact r2 y (by grind)
termination_by t => t.length
decreasing_by
  simp [e]
theorem hsP_up {h : Rat} {n : Nd} {y z : Rat} (hy : n.x ≤ y) (hyz : y ≤ z) : hsP h n y ≤ lar (hsStart h n) (lineAt n z) := by
  obtain ⟨g1, g2, g3, g4⟩ := hsS_ge h n
  have l1 := lar_l (hsStart h n) (lineAt n z)
  have l2 := lar_r (hsStart h n) (lineAt n z)
  by_cases e : n.x = y
  · rw [← e, hsP_x]
    grind
  · rw [hsP_lt (by grind)]
    refine lar_le l1 ?_
    by_cases hk : 0 ≤ n.k
    · have := line_le_up hk hyz
      grind
    · have := line_s (n := n) (y := y) (by grind) hy
      grind
theorem hsP_ge {h : Rat} {n : Nd} {y : Rat} (hy : n.x ≤ y) : h ≤ hsP h n y ∧ vv n y ≤ hsP h n y := by
  obtain ⟨g1, g2, g3, g4⟩ := hsS_ge h n
  by_cases e : n.x = y
  · rw [← e, hsP_x, vv_x]
    exact ⟨lar_l _ _, lar_r _ _⟩
  · rw [hsP_lt (by grind), vv_lt (by grind)]
    have := lar_l (hsStart h n) (lineAt n y)
    exact ⟨by grind, lar_r _ _⟩
theorem hsF_ge : ∀ {t : List Nd} {n : Nd} {h y : Rat}, Asc n t → n.x ≤ y → h ≤ hsF h n t y ∧ vv (ev n t y) y ≤ hsF h n t y
  | [], n, h, y, _, hy => hsP_ge hy
  | m :: t, n, h, y, ha, hy => by
    show h ≤ (if y < m.x then hsP h n y else hsF _ m t y) ∧ vv (ev n (m :: t) y) y ≤ (if y < m.x then hsP h n y else hsF _ m t y)
    by_cases hm : y < m.x
    · rw [if_pos hm, ev_first hm]
      exact hsP_ge hy
    · rw [if_neg hm, ev_next hm]
      obtain ⟨r1, r2⟩ := hsF_ge (h := lar (hsStart h n) (lineAt n m.x)) ha.2 (y := y) (by grind)
      have := lar_l (hsStart h n) (lineAt n m.x)
      have := (hsS_ge h n).1
      exact ⟨by grind, r2⟩
theorem hsF_up : ∀ {t : List Nd} {n : Nd} {h y z : Rat}, Asc n t → n.x ≤ y → y ≤ z → hsF h n t y ≤ hsF h n t z
  | [], n, h, y, z, _, hy, hyz => by
    show hsP h n y ≤ hsP h n z
    by_cases e : n.x = z
    · have : y = z := by grind
      rw [this]
      exact Rat.le_refl
    · rw [hsP_lt (y := z) (by grind)]
      exact hsP_up hy hyz
  | m :: t, n, h, y, z, ha, hy, hyz => by
    show (if y < m.x then hsP h n y else hsF _ m t y) ≤ (if z < m.x then hsP h n z else hsF _ m t z)
    by_cases h1 : y < m.x
    · rw [if_pos h1]
      by_cases h2 : z < m.x
      · rw [if_pos h2]
        by_cases e : n.x = z
        · have : y = z := by grind
          rw [this]
          exact Rat.le_refl
        · rw [hsP_lt (y := z) (by grind)]
          exact hsP_up hy hyz
      · rw [if_neg h2]
        have q1 := hsP_up (h := h) hy (z := m.x) (by grind)
        have q2 := (hsF_ge (h := lar (hsStart h n) (lineAt n m.x)) ha.2 (y := z) (by grind)).1
        grind
    · rw [if_neg h1, if_neg (by grind)]
      exact hsF_up ha.2 (by grind) hyz
theorem hsP_least {h : Rat} {n : Nd} {G : Rat → Rat} {b : Rat} (hb : n.x < b) (hG : ∀ y, n.x ≤ y → y < b → vv n y ≤ G y) (hm : ∀ y z, n.x ≤ y → y ≤ z → G y ≤ G z) (h0 : h ≤ G n.x) :
    (∀ y, n.x ≤ y → y < b → hsP h n y ≤ G y) ∧ lar (hsStart h n) (lineAt n b) ≤ G b := by
  have hv := hG n.x Rat.le_refl hb
  rw [vv_x] at hv
  have hs : ∀ y, n.x < y → n.s ≤ G y := by
    intro y hy
    have : 0 < (if y < b then y - n.x else b - n.x) := by split <;> grind
    refine lim_le this (b := n.k) fun e e0 e1 => ?_
    have e2 : e < y - n.x ∧ e < b - n.x := by split at e1 <;> grind
    have q1 := hG (n.x + e) (by grind) (by grind)
    rw [vv_lt (by grind), lineAt_add, lineAt_x] at q1
    have q2 := hm (n.x + e) y (by grind) (by grind)
    grind
  have hS : ∀ y, n.x < y → hsStart h n ≤ G y := by
    intro y hy
    have q := hm n.x y Rat.le_refl (by grind)
    unfold hsStart
    exact lar_le (lar_le (by grind) (by grind)) (hs y hy)
  refine ⟨fun y hy hyb => ?_, ?_⟩
  · by_cases e : n.x = y
    · rw [← e, hsP_x]
      exact lar_le h0 hv
    · rw [hsP_lt (by grind)]
      refine lar_le (hS y (by grind)) ?_
      have := hG y hy hyb
      rw [vv_lt (by grind)] at this
      exact this
  · refine lar_le (hS b hb) ?_
    refine lim_le (d := b - n.x) (by grind) (b := -n.k) fun e e0 e1 => ?_
    have q1 := hG (b - e) (by grind) (by grind)
    rw [vv_lt (by grind), lineAt_sub] at q1
    have q2 := hm (b - e) b (by grind) (by grind)
    grind
theorem hsF_least : ∀ {t : List Nd} {n : Nd} {h : Rat} {G : Rat → Rat}, Asc n t → (∀ y, n.x ≤ y → vv (ev n t y) y ≤ G y) → (∀ y z, n.x ≤ y → y ≤ z → G y ≤ G z) → h ≤ G n.x → ∀ y, n.x ≤ y → hsF h n t y ≤ G y
  | [], n, h, G, _, hG, hm, h0, y, hy => (hsP_least (b := y + 1) (by grind) (fun z hz _ => hG z hz) hm h0).1 y hy (by grind)
  | m :: t, n, h, G, ha, hG, hm, h0, y, hy => by
    obtain ⟨q1, q2⟩ := hsP_least (h := h) (b := m.x) ha.1 (fun z hz hzm => by
      have := hG z hz
      rw [ev_first hzm] at this
      exact this) hm h0
    show (if y < m.x then hsP h n y else hsF _ m t y) ≤ G y
    have := ha.1
    by_cases h1 : y < m.x
    · rw [if_pos h1]
      exact q1 y hy h1
    · rw [if_neg h1]
      refine hsF_least ha.2 (fun z hz => ?_) (fun u v hu hv => hm u v (by grind) hv) q2 y (by grind)
      have := hG z (by grind)
      rw [ev_next (by grind)] at this
      exact this
/-- what a highest so far is: the least function that never falls and is nowhere below -/
theorem hsC_ok {f : List Nd} (hf : Srt f) : Can (hsC f) ∧ (∀ y, 0 ≤ y → vl f y ≤ vl (hsC f) y) ∧ (∀ y z, 0 ≤ y → y ≤ z → vl (hsC f) y ≤ vl (hsC f) z) ∧
    ∀ G : Rat → Rat, (∀ y, 0 ≤ y → vl f y ≤ G y) → (∀ y z, 0 ≤ y → y ≤ z → G y ≤ G z) → ∀ y, 0 ≤ y → vl (hsC f) y ≤ G y := by
  cases f with
  | nil => exact absurd hf id
  | cons n t =>
    obtain ⟨h1, h2⟩ := srt_iff.mp hf
    obtain ⟨l1, l2⟩ := hs_list (h := n.v) h2
    have hS : Srt (hsN n.v (n :: t)) := by
      rw [hs_cons]
      exact srt_iff.mpr ⟨h1, l1⟩
    have hV : ∀ y, 0 ≤ y → vl (hsC (n :: t)) y = hsF n.v n t y := by
      intro y hy
      show vl (mkC (hsN n.v (n :: t))) y = _
      rw [vl_mk hS hy, hs_cons, vl_eq l1 (show n.x ≤ y by grind)]
      exact l2 y (by grind)
    have hO : ∀ y, 0 ≤ y → vl (n :: t) y = vv (ev n t y) y := fun y hy => vl_eq h2 (by grind)
    refine ⟨can_mk hS, fun y hy => ?_, fun y z hy hz => ?_, fun G g1 g2 y hy => ?_⟩
    · rw [hV y hy, hO y hy]
      exact (hsF_ge h2 (by grind)).2
    · rw [hV y hy, hV z (by grind)]
      exact hsF_up h2 (by grind) hz
    · rw [hV y hy]
      refine hsF_least h2 (fun z hz => ?_) (fun u v hu hv => g2 u v (by grind) hv) ?_ y (by grind)
      · rw [← hO z (by grind)]
        exact g1 z (by grind)
      · have := g1 n.x (by grind)
        rw [hO n.x (by grind)] at this
        have e : ev n t n.x = n := by
          cases t with
          | nil => rfl
          | cons m t => exact ev_first h2.1
        rw [e, vv_x] at this
        exact this
end K66
set_option autoImplicit false
/-! M4: the highest behind, as the least function that never rises. Core only. -/
namespace K66
def lastN (n : Nd) : List Nd → Nd
  | [] => n
  | m :: t => lastN m t
theorem lastN_is : ∀ {t : List Nd} {n : Nd}, (n :: t).getLast?.getD n0 = lastN n t
  | [], _ => rfl
  | m :: t, n => by
    rw [List.getLast?_cons_cons]
    exact lastN_is (t := t) (n := m)
def hbF : Nd → List Nd → Rat → Rat
  | n, [], y => if n.x = y then lar n.v n.s else lineAt n y
  | n, m :: t, y => if y < m.x then (if n.x = y then lar n.v (lar (hbF m t m.x) (lar n.s (lineAt n m.x))) else lar (hbF m t m.x) (lar (lineAt n y) (lineAt n m.x))) else hbF m t y
theorem hb_cons (n : Nd) (t : List Nd) : hbN (n :: t) = (hbSome n (hbN t).2 ++ (hbN t).1, some (((hbSome n (hbN t).2).head?.getD n0).v, n.x)) := rfl
theorem fall_some (n : Nd) (r l : Rat) : fallN n (some (r, l)) = if lineAt n l < r then (if r < n.s then [⟨n.x, lar n.v n.s, n.s, n.k⟩, ⟨n.x + (r - n.s) / n.k, r, r, 0⟩] else [⟨n.x, lar n.v r, r, 0⟩]) else [⟨n.x, lar n.v n.s, n.s, n.k⟩] := rfl
theorem hb_some (n : Nd) (r l : Rat) : hbSome n (some (r, l)) = if n.k < 0 then fallN n (some (r, l)) else [⟨n.x, lar n.v (lar r (lineAt n l)), lar r (lineAt n l), 0⟩] := rfl
/-- the pieces that one node leaves, ahead of the next one's income -/
theorem hb_piece (n : Nd) (r l : Rat) (hl : n.x < l) : ∃ a s, hbSome n (some (r, l)) = a :: s ∧ a.x = n.x ∧ a.v = lar n.v (lar r (lar n.s (lineAt n l))) ∧
    ((s = [] ∧ ∀ y, n.x < y → y < l → lineAt a y = lar r (lar (lineAt n y) (lineAt n l))) ∨
      ∃ b, s = [b] ∧ n.x < b.x ∧ b.x < l ∧ (∀ y, n.x < y → y < b.x → lineAt a y = lar r (lar (lineAt n y) (lineAt n l))) ∧ ∀ y, b.x ≤ y → y < l → vv b y = lar r (lar (lineAt n y) (lineAt n l))) := by
  rw [hb_some]
  by_cases hk : n.k < 0
  · rw [if_pos hk, fall_some]
    have hls := line_s (n := n) (y := l) (by grind) (by grind)
    by_cases h1 : lineAt n l < r
    · rw [if_pos h1]
      by_cases h2 : r < n.s
      · rw [if_pos h2]
        have hw : (r - n.s) / n.k * n.k = r - n.s := by
          have : n.k ≠ 0 := by grind
          grind
        have hz : lineAt n (n.x + (r - n.s) / n.k) = r := by
          unfold lineAt
          grind
        have hpos : 0 < (r - n.s) / n.k := by
          refine Rat.not_le.mp fun hle => ?_
          have := mul_mono (a := n.k) (b := 0) (c := -((r - n.s) / n.k)) (by grind) (by grind)
          grind
        generalize (r - n.s) / n.k = w at hz hpos
        have hzl : n.x + w < l := by
          refine Rat.not_le.mp fun hle => ?_
          have := line_le_dn (n := n) (by grind) hle
          grind
        refine ⟨_, _, rfl, rfl, ?_, .inr ⟨_, rfl, by show n.x < n.x + w; grind, hzl, fun y hy hyb => ?_, fun y hy hyl => ?_⟩⟩
        · show lar n.v n.s = _
          rw [lar_eq_l (a := n.s) (by grind), lar_eq_r (a := r) (by grind)]
        · have hyb : y < n.x + w := hyb
          have q := line_le_dn (n := n) (by grind) (Rat.le_of_lt hyb)
          have q2 := line_le_dn (n := n) (y := y) (z := l) (by grind) (by grind)
          show lineAt n y = _
          rw [lar_eq_l q2, lar_eq_r (by grind)]
        · have hy : n.x + w ≤ y := hy
          have q := line_le_dn (n := n) (by grind) hy
          have q2 := line_le_dn (n := n) (y := y) (z := l) (by grind) (by grind)
          rw [lar_eq_l q2, lar_eq_l (by grind)]
          unfold vv
          show (if n.x + w = y then r else r + 0 * (y - (n.x + w))) = r
          split <;> grind
      · rw [if_neg h2]
        refine ⟨_, _, rfl, rfl, ?_, .inl ⟨rfl, fun y hy hyl => ?_⟩⟩
        · show lar n.v r = _
          rw [lar_eq_l (a := n.s) (by grind), lar_eq_l (a := r) (by grind)]
        · have q := line_s (n := n) (y := y) (by grind) (by grind)
          have q2 := line_le_dn (n := n) (y := y) (z := l) (by grind) (by grind)
          show r + 0 * (y - n.x) = _
          rw [lar_eq_l q2, lar_eq_l (by grind)]
          grind
    · rw [if_neg h1]
      refine ⟨_, _, rfl, rfl, ?_, .inl ⟨rfl, fun y hy hyl => ?_⟩⟩
      · show lar n.v n.s = _
        rw [lar_eq_l (a := n.s) (by grind), lar_eq_r (a := r) (by grind)]
      · have q2 := line_le_dn (n := n) (y := y) (z := l) (by grind) (by grind)
        show lineAt n y = _
        rw [lar_eq_l q2, lar_eq_r (by grind)]
  · rw [if_neg hk]
    refine ⟨_, _, rfl, rfl, ?_, .inl ⟨rfl, fun y hy hyl => ?_⟩⟩
    · have q := line_le_up (n := n) (y := n.x) (z := l) (by grind) (by grind)
      rw [lineAt_x] at q
      show lar n.v (lar r (lineAt n l)) = _
      rw [lar_eq_r q]
    · have q2 := line_le_up (n := n) (y := y) (z := l) (by grind) (by grind)
      show lar r (lineAt n l) + 0 * (y - n.x) = _
      rw [lar_eq_r q2]
      grind
theorem hb_list : ∀ {t : List Nd} {n : Nd}, Asc n t → ∃ a s, (hbN (n :: t)).1 = a :: s ∧ a.x = n.x ∧ a.v = hbF n t n.x ∧ Asc a s ∧ (hbN (n :: t)).2 = some (hbF n t n.x, n.x) ∧ ∀ y, n.x ≤ y → vv (ev a s y) y = hbF n t y
  | [], n, _ => by
    refine ⟨⟨n.x, lar n.v n.s, n.s, n.k⟩, [], rfl, rfl, (if_pos rfl).symm, trivial, ?_, fun y hy => ?_⟩
    · show some (lar n.v n.s, n.x) = some (if n.x = n.x then lar n.v n.s else _, n.x)
      rw [if_pos rfl]
    · rfl
  | m :: t, n, ha => by
    obtain ⟨a', s', e1, e2, e3, e4, e5, e6⟩ := hb_list ha.2
    have hnm := ha.1
    obtain ⟨a, s, p1, p2, p3, p4⟩ := hb_piece n (hbF m t m.x) m.x hnm
    rw [hb_cons, e5, e1, p1]
    have hFx : hbF n (m :: t) n.x = a.v := by
      show (if n.x < m.x then (if n.x = n.x then _ else _) else _) = a.v
      rw [if_pos hnm, if_pos rfl, p3]
    refine ⟨a, s ++ (a' :: s'), rfl, p2, hFx.symm, ?_, by rw [hFx]; rfl, ?_⟩
    · rcases p4 with ⟨rfl, _⟩ | ⟨b, rfl, b1, b2, _⟩
      · exact ⟨by grind, e4⟩
      · exact ⟨by grind, by grind, e4⟩
    · intro y hy
      have hF : hbF n (m :: t) y = if y < m.x then (if n.x = y then lar n.v (lar (hbF m t m.x) (lar n.s (lineAt n m.x))) else lar (hbF m t m.x) (lar (lineAt n y) (lineAt n m.x))) else hbF m t y := rfl
      rw [hF]
      have atx : n.x = y → vv a y = lar n.v (lar (hbF m t m.x) (lar n.s (lineAt n m.x))) := by
        intro e
        rw [← e, ← p2, vv_x, p3]
      rcases p4 with ⟨rfl, q⟩ | ⟨b, rfl, b1, b2, q1, q2⟩
      · show vv (if y < a'.x then a else ev a' s' y) y = _
        rw [e2]
        by_cases h1 : y < m.x
        · rw [if_pos h1, if_pos h1]
          by_cases e : n.x = y
          · rw [if_pos e, atx e]
          · rw [if_neg e, vv_lt (by grind), q y (by grind) h1]
        · rw [if_neg h1, if_neg h1]
          exact e6 y (by grind)
      · show vv (if y < b.x then a else (if y < a'.x then b else ev a' s' y)) y = _
        rw [e2]
        by_cases h0 : y < b.x
        · rw [if_pos h0, if_pos (by grind)]
          by_cases e : n.x = y
          · rw [if_pos e, atx e]
          · rw [if_neg e, vv_lt (by grind), q1 y (by grind) h0]
        · rw [if_neg h0]
          by_cases h1 : y < m.x
          · rw [if_pos h1, if_pos h1, if_neg (by grind), q2 y (by grind) h1]
          · rw [if_neg h1, if_neg h1]
            exact e6 y (by grind)
theorem line_mid {n : Nd} {x y z : Rat} (h1 : x ≤ y) (h2 : y ≤ z) : lineAt n y ≤ lar (lineAt n x) (lineAt n z) := by
  by_cases hk : 0 ≤ n.k
  · have := line_le_up hk h2
    have := lar_r (lineAt n x) (lineAt n z)
    grind
  · have := line_le_dn (n := n) (by grind) h1
    have := lar_l (lineAt n x) (lineAt n z)
    grind
theorem hbF_ge : ∀ {t : List Nd} {n : Nd} {y : Rat}, Asc n t → n.x ≤ y → vv (ev n t y) y ≤ hbF n t y
  | [], n, y, _, hy => by
    show vv n y ≤ (if n.x = y then lar n.v n.s else lineAt n y)
    split
    · rename_i e
      rw [← e, vv_x]
      exact lar_l _ _
    · rw [vv_lt (by grind)]
      exact Rat.le_refl
  | m :: t, n, y, ha, hy => by
    show vv (ev n (m :: t) y) y ≤ (if y < m.x then _ else _)
    split
    · rename_i hm
      rw [ev_first hm]
      split
      · rename_i e
        rw [← e, vv_x]
        exact lar_l _ _
      · rw [vv_lt (by grind)]
        have := lar_r (hbF m t m.x) (lar (lineAt n y) (lineAt n m.x))
        have := lar_l (lineAt n y) (lineAt n m.x)
        grind
    · rename_i hm
      rw [ev_next hm]
      exact hbF_ge ha.2 (by grind)
theorem hbF_dn : ∀ {t : List Nd} {n : Nd} {y z : Rat}, Asc n t → (lastN n t).k ≤ 0 → n.x ≤ y → y ≤ z → hbF n t z ≤ hbF n t y
  | [], n, y, z, _, hk, hy, hyz => by
    have hk : n.k ≤ 0 := hk
    show (if n.x = z then lar n.v n.s else lineAt n z) ≤ (if n.x = y then lar n.v n.s else lineAt n y)
    by_cases e : n.x = z
    · have : n.x = y := by grind
      rw [if_pos e, if_pos this]
      exact Rat.le_refl
    · rw [if_neg e]
      split
      · have := line_s hk (show n.x ≤ z by grind)
        have := lar_r n.v n.s
        grind
      · exact line_le_dn hk hyz
  | m :: t, n, y, z, ha, hk, hy, hyz => by
    have hk : (lastN m t).k ≤ 0 := hk
    have hF : ∀ y, hbF n (m :: t) y = if y < m.x then (if n.x = y then lar n.v (lar (hbF m t m.x) (lar n.s (lineAt n m.x))) else lar (hbF m t m.x) (lar (lineAt n y) (lineAt n m.x))) else hbF m t y := fun _ => rfl
    rw [hF y, hF z]
    clear hF
    obtain ⟨r, hr⟩ : ∃ r, hbF m t m.x = r := ⟨_, rfl⟩
    rw [hr]
    by_cases h1 : y < m.x
    · rw [if_pos h1]
      -- what y gives is at least r
      have big : ∀ w, w ≤ lar r (lar (lineAt n y) (lineAt n m.x)) → w ≤ (if n.x = y then lar n.v (lar r (lar n.s (lineAt n m.x))) else lar r (lar (lineAt n y) (lineAt n m.x))) := by
        intro w hw
        split
        · rename_i e
          rw [← e, lineAt_x] at hw
          have := lar_r n.v (lar r (lar n.s (lineAt n m.x)))
          grind
        · exact hw
      by_cases h2 : z < m.x
      · rw [if_pos h2]
        by_cases e : n.x = z
        · have : n.x = y := by grind
          rw [if_pos e, if_pos this]
          exact Rat.le_refl
        · rw [if_neg e]
          refine big _ (lar_le (lar_l _ _) (lar_le ?_ ?_))
          · have := line_mid (n := n) hyz (Rat.le_of_lt h2)
            have := lar_r r (lar (lineAt n y) (lineAt n m.x))
            grind
          · have := lar_r (lineAt n y) (lineAt n m.x)
            have := lar_r r (lar (lineAt n y) (lineAt n m.x))
            grind
      · rw [if_neg h2]
        refine big _ ?_
        have := hbF_dn ha.2 hk (y := m.x) (z := z) Rat.le_refl (by grind)
        have := lar_l r (lar (lineAt n y) (lineAt n m.x))
        grind
    · rw [if_neg h1, if_neg (by grind)]
      exact hbF_dn ha.2 hk (by grind) hyz
theorem start_le {n : Nd} {G : Rat → Rat} {b y : Rat} (hb : n.x < b) (hG : ∀ y, n.x ≤ y → y < b → vv n y ≤ G y) (hm : ∀ y z, n.x ≤ y → y ≤ z → G z ≤ G y) : n.s ≤ G n.x := by
  refine lim_le (d := b - n.x) (by grind) (b := n.k) fun e e0 e1 => ?_
  have q1 := hG (n.x + e) (by grind) (by grind)
  rw [vv_lt (by grind), lineAt_add, lineAt_x] at q1
  have q2 := hm n.x (n.x + e) Rat.le_refl (by grind)
  grind
theorem hbF_least : ∀ {t : List Nd} {n : Nd} {G : Rat → Rat}, Asc n t → (∀ y, n.x ≤ y → vv (ev n t y) y ≤ G y) → (∀ y z, n.x ≤ y → y ≤ z → G z ≤ G y) → ∀ y, n.x ≤ y → hbF n t y ≤ G y
  | [], n, G, _, hG, hm, y, hy => by
    show (if n.x = y then lar n.v n.s else lineAt n y) ≤ G y
    split
    · rename_i e
      have hv := hG n.x Rat.le_refl
      have hv : vv n n.x ≤ G n.x := hv
      rw [vv_x] at hv
      rw [← e]
      exact lar_le hv (start_le (b := n.x + 1) (y := y) (by grind) (fun z hz _ => hG z hz) hm)
    · have : vv n y ≤ G y := hG y hy
      rw [vv_lt (by grind)] at this
      exact this
  | m :: t, n, G, ha, hG, hm, y, hy => by
    have hnm := ha.1
    have ih := hbF_least ha.2 (G := G) (fun z hz => by
      have := hG z (by grind)
      rw [ev_next (by grind)] at this
      exact this) (fun u v hu hv => hm u v (by grind) hv)
    have hG' : ∀ y, n.x ≤ y → y < m.x → vv n y ≤ G y := by
      intro z hz hzm
      have := hG z hz
      rw [ev_first hzm] at this
      exact this
    show (if y < m.x then _ else _) ≤ G y
    split
    · rename_i hym
      have hr : hbF m t m.x ≤ G y := by
        have := ih m.x Rat.le_refl
        have := hm y m.x hy (by grind)
        grind
      have hl : lineAt n m.x ≤ G y := by
        refine lim_le (d := m.x - y) (by grind) (b := -n.k) fun e e0 e1 => ?_
        have q1 := hG' (m.x - e) (by grind) (by grind)
        rw [vv_lt (by grind), lineAt_sub] at q1
        have q2 := hm y (m.x - e) hy (by grind)
        grind
      split
      · rename_i e
        have hv := hG' n.x Rat.le_refl hnm
        rw [vv_x] at hv
        have hs := start_le (y := y) hnm hG' hm
        rw [e] at hv hs
        exact lar_le hv (lar_le hr (lar_le hs hl))
      · have hv := hG' y hy hym
        rw [vv_lt (by grind)] at hv
        exact lar_le hr (lar_le hv hl)
    · exact ih y (by grind)
/-- what a highest behind is: the least function that never rises and is nowhere below -/
theorem hbC_ok {f : List Nd} (hf : Srt f) (hk : (f.getLast?.getD n0).k ≤ 0) : Can (hbC f) ∧ (∀ y, 0 ≤ y → vl f y ≤ vl (hbC f) y) ∧ (∀ y z, 0 ≤ y → y ≤ z → vl (hbC f) z ≤ vl (hbC f) y) ∧
    ∀ G : Rat → Rat, (∀ y, 0 ≤ y → vl f y ≤ G y) → (∀ y z, 0 ≤ y → y ≤ z → G z ≤ G y) → ∀ y, 0 ≤ y → vl (hbC f) y ≤ G y := by
  cases f with
  | nil => exact absurd hf id
  | cons n t =>
    rw [lastN_is] at hk
    obtain ⟨h1, h2⟩ := srt_iff.mp hf
    obtain ⟨a, s, e1, e2, e3, e4, e5, e6⟩ := hb_list h2
    have hS : Srt (hbN (n :: t)).1 := by
      rw [e1]
      exact srt_iff.mpr ⟨by grind, e4⟩
    have hV : ∀ y, 0 ≤ y → vl (hbC (n :: t)) y = hbF n t y := by
      intro y hy
      show vl (mkC (hbN (n :: t)).1) y = _
      rw [vl_mk hS hy, e1, vl_eq e4 (by grind)]
      exact e6 y (by grind)
    have hO : ∀ y, 0 ≤ y → vl (n :: t) y = vv (ev n t y) y := fun y hy => vl_eq h2 (by grind)
    refine ⟨can_mk hS, fun y hy => ?_, fun y z hy hz => ?_, fun G g1 g2 y hy => ?_⟩
    · rw [hV y hy, hO y hy]
      exact hbF_ge h2 (by grind)
    · rw [hV y hy, hV z (by grind)]
      exact hbF_dn h2 hk (by grind) hz
    · rw [hV y hy]
      refine hbF_least h2 (fun z hz => ?_) (fun u v hu hv => g2 u v (by grind) hv) y (by grind)
      rw [← hO z (by grind)]
      exact g1 z (by grind)
end K66
set_option autoImplicit false
/-! M5: least functions between rates; what keeps between rates; places that lead. Core only. -/
namespace K66
def Up (l : Rat) (F : Rat → Rat) : Prop := ∀ y z, 0 ≤ y → y ≤ z → F y + l * (z - y) ≤ F z
def Dn (h : Rat) (F : Rat → Rat) : Prop := ∀ y z, 0 ≤ y → y ≤ z → F z ≤ F y + h * (z - y)
structure Bt (low high : Option Rat) (F : Rat → Rat) : Prop where
  up : ∀ l, low = some l → Up l F
  dn : ∀ h, high = some h → Dn h F
structure Lst (F : Rat → Rat) (low high : Option Rat) (M : Rat → Rat) : Prop where
  ge : ∀ y, 0 ≤ y → F y ≤ M y
  bt : Bt low high M
  le : ∀ G, (∀ y, 0 ≤ y → F y ≤ G y) → Bt low high G → ∀ y, 0 ≤ y → M y ≤ G y
def RtLe (low high : Option Rat) : Prop := ∀ l h, low = some l → high = some h → ¬ h < l
theorem Bt.congr {low high : Option Rat} {F G : Rat → Rat} (b : Bt low high F) (h : ∀ y, 0 ≤ y → F y = G y) : Bt low high G := by
  refine ⟨fun l hl y z hy hz => ?_, fun l hl y z hy hz => ?_⟩
  · rw [← h y hy, ← h z (by grind)]
    exact b.up l hl y z hy hz
  · rw [← h y hy, ← h z (by grind)]
    exact b.dn l hl y z hy hz
theorem Lst.congr {F : Rat → Rat} {low high : Option Rat} {M N : Rat → Rat} (b : Lst F low high M) (h : ∀ y, 0 ≤ y → M y = N y) : Lst F low high N :=
  ⟨fun y hy => by rw [← h y hy]; exact b.ge y hy, b.bt.congr h, fun G g1 g2 y hy => by rw [← h y hy]; exact b.le G g1 g2 y hy⟩
theorem Lst.uniq {F : Rat → Rat} {low high : Option Rat} {M N : Rat → Rat} (a : Lst F low high M) (b : Lst F low high N) (y : Rat) (hy : 0 ≤ y) : M y = N y := by
  have h1 := a.le N b.ge b.bt y hy
  have h2 := b.le M a.ge a.bt y hy
  grind
theorem lst_none (F : Rat → Rat) : Lst F none none F := ⟨fun _ _ => Rat.le_refl, ⟨fun _ h => (by cases h), fun _ h => (by cases h)⟩, fun _ g _ y hy => g y hy⟩
theorem lst_low {f : List Nd} (hf : Srt f) (l : Rat) : Can (sumC (hsC (subC f (lineC l))) (lineC l)) ∧ Lst (vl f) (some l) none (vl (sumC (hsC (subC f (lineC l))) (lineC l))) := by
  obtain ⟨d1, d2⟩ := subC_ok hf l
  obtain ⟨h1, h2, h3, h4⟩ := hsC_ok d1.srt
  obtain ⟨s1, s2⟩ := sumC_ok h1.srt (line_srt l)
  have hv : ∀ y, 0 ≤ y → vl (sumC (hsC (subC f (lineC l))) (lineC l)) y = vl (hsC (subC f (lineC l))) y + l * y := fun y hy => by rw [s2 y hy, line_vl l hy]
  refine ⟨s1, fun y hy => ?_, ⟨fun l' hl y z hy hz => ?_, fun _ z => by cases z⟩, fun G g1 g2 y hy => ?_⟩
  · have := h2 y hy
    rw [d2 y hy] at this
    rw [hv y hy]
    grind
  · cases hl
    have := h3 y z hy hz
    rw [hv y hy, hv z (by grind)]
    grind
  · have := h4 (fun y => G y - l * y) (fun z hz => by
      have := g1 z hz
      rw [d2 z hz]
      grind) (fun u v hu huv => by
      have := g2.up l rfl u v hu huv
      grind) y hy
    rw [hv y hy]
    grind
/-! ### far away -/
theorem tail_ev : ∀ {t : List Nd} {n : Nd} {y : Rat}, Asc n t → (lastN n t).x < y → ev n t y = lastN n t
  | [], _, _, _, _ => rfl
  | m :: t, n, y, h, hy => by
    have hm : m.x ≤ (lastN m t).x := by
      have : ∀ {t : List Nd} {n : Nd}, Asc n t → n.x ≤ (lastN n t).x := by
        intro t
        induction t with
        | nil => intro n _; exact Rat.le_refl
        | cons p t ih =>
          intro n h
          have := ih h.2
          have := h.1
          show n.x ≤ (lastN p t).x
          grind
      exact this h.2
    have hy : (lastN m t).x < y := hy
    rw [ev_next (by grind)]
    exact tail_ev h.2 hy
theorem last_le : ∀ {t : List Nd} {n : Nd}, Asc n t → n.x ≤ (lastN n t).x
  | [], n, _ => Rat.le_refl
  | p :: t, n, h => by
    have := last_le h.2
    have := h.1
    show n.x ≤ (lastN p t).x
    grind
theorem far {f : List Nd} (hf : Srt f) : ∃ X, 0 ≤ X ∧ ∀ y, X < y → vl f y = lineAt (f.getLast?.getD n0) y := by
  cases f with
  | nil => exact absurd hf id
  | cons n t =>
    obtain ⟨h1, h2⟩ := srt_iff.mp hf
    have hl := last_le h2
    refine ⟨(lastN n t).x, by grind, fun y hy => ?_⟩
    rw [lastN_is, vl_eq h2 (by grind), tail_ev h2 hy, vv_lt hy]
/-- slopes far away by the values -/
theorem far_slope {f : List Nd} (hf : Srt f) {A h : Rat} (hb : ∀ y, 0 ≤ y → vl f y ≤ A + h * y) : ¬ h < (f.getLast?.getD n0).k := by
  obtain ⟨X, hX, hv⟩ := far hf
  generalize f.getLast?.getD n0 = n at hv ⊢
  intro hlt
  -- a place where the line lies above
  have hd : 0 < n.k - h := by grind
  have hq : ∀ y, X < y → (n.s - n.k * n.x) + n.k * y ≤ A + h * y := by
    intro y hy
    have := hb y (by grind)
    rw [hv y hy] at this
    unfold lineAt at this
    grind
  -- (k - h) y <= A - a, for all y > X
  have key : ∀ y, X < y → (n.k - h) * y ≤ A - (n.s - n.k * n.x) := fun y hy => by
    have := hq y hy
    grind
  have hw : (n.k - h) * ((A - (n.s - n.k * n.x)) / (n.k - h)) = A - (n.s - n.k * n.x) := by
    have : n.k - h ≠ 0 := by grind
    grind
  generalize (A - (n.s - n.k * n.x)) / (n.k - h) = w at hw
  by_cases hXw : X < w + 1
  · have h1 := key (w + 1) hXw
    grind
  · have h1 := key (X + 1) (by grind)
    have h2 := mul_mono (a := w) (b := X) (c := n.k - h) (by grind) (by grind)
    grind
theorem far_sub {f : List Nd} (hf : Srt f) {h : Rat} (hk : ¬ h < (f.getLast?.getD n0).k) : ((subC f (lineC h)).getLast?.getD n0).k ≤ 0 := by
  obtain ⟨d1, d2⟩ := subC_ok hf h
  obtain ⟨X, hX, hv⟩ := far hf
  obtain ⟨Y, hY, hw⟩ := far d1.srt
  generalize f.getLast?.getD n0 = n at hv hk
  generalize (subC f (lineC h)).getLast?.getD n0 = m at hw ⊢
  have e : ∀ y, X < y → Y < y → lineAt m y = lineAt n y - h * y := by
    intro y h1 h2
    rw [← hw y h2, ← hv y h1]
    exact d2 y (by grind)
  unfold lineAt at e
  by_cases c : X ≤ Y
  · have e1 := e (Y + 1) (by grind) (by grind)
    have e2 := e (Y + 2) (by grind) (by grind)
    grind
  · have e1 := e (X + 1) (by grind) (by grind)
    have e2 := e (X + 2) (by grind) (by grind)
    grind
theorem lst_high {f : List Nd} (hf : Srt f) {h : Rat} (hk : ¬ h < (f.getLast?.getD n0).k) : Can (sumC (hbC (subC f (lineC h))) (lineC h)) ∧ Lst (vl f) none (some h) (vl (sumC (hbC (subC f (lineC h))) (lineC h))) := by
  obtain ⟨d1, d2⟩ := subC_ok hf h
  obtain ⟨h1, h2, h3, h4⟩ := hbC_ok d1.srt (far_sub hf hk)
  obtain ⟨s1, s2⟩ := sumC_ok h1.srt (line_srt h)
  have hv : ∀ y, 0 ≤ y → vl (sumC (hbC (subC f (lineC h))) (lineC h)) y = vl (hbC (subC f (lineC h))) y + h * y := fun y hy => by rw [s2 y hy, line_vl h hy]
  refine ⟨s1, fun y hy => ?_, ⟨fun _ z => (by cases z), fun l' hl y z hy hz => ?_⟩, fun G g1 g2 y hy => ?_⟩
  · have := h2 y hy
    rw [d2 y hy] at this
    rw [hv y hy]
    grind
  · cases hl
    have := h3 y z hy hz
    rw [hv y hy, hv z (by grind)]
    grind
  · have := h4 (fun y => G y - h * y) (fun z hz => by
      have := g1 z hz
      rw [d2 z hz]
      grind) (fun u v hu huv => by
      have := g2.dn h rfl u v hu huv
      grind) y hy
    rw [hv y hy]
    grind
/-- the greater one of the two least functions is the least one between both rates -/
theorem lst_max {F P Q : Rat → Rat} {low high : Option Rat} (hr : RtLe low high) (hp : Lst F low none P) (hq : Lst F none high Q) : Lst F low high (fun y => lar (Q y) (P y)) := by
  have mono : ∀ {a b c : Rat}, a ≤ b → 0 ≤ c → a * c ≤ b * c := mul_mono
  refine ⟨fun y hy => ?_, ⟨fun l hl y z hy hz => ?_, fun h hh y z hy hz => ?_⟩, fun G g1 g2 y hy => ?_⟩
  · have := hq.ge y hy
    have := lar_l (Q y) (P y)
    grind
  · -- never falls faster than the low rate
    have pz := hp.bt.up l hl y z hy hz
    have mz1 := lar_r (Q z) (P z)
    have mz0 := lar_l (Q z) (P z)
    have main : Q y + l * (z - y) ≤ lar (Q z) (P z) := by
      generalize hN : lar (Q z) (P z) = N at mz1 mz0
      have hle := hq.le (fun w => if w ≤ z then (if N - l * (z - w) < Q w then N - l * (z - w) else Q w) else Q w) (fun w hw => ?_) ⟨fun _ q => (by cases q), fun h hh u v hu huv => ?_⟩ y hy
      · have hle : Q y ≤ (if y ≤ z then (if N - l * (z - y) < Q y then N - l * (z - y) else Q y) else Q y) := hle
        rw [if_pos hz] at hle
        split at hle
        · grind
        · grind
      · show F w ≤ (if w ≤ z then (if N - l * (z - w) < Q w then N - l * (z - w) else Q w) else Q w)
        have h1 := hq.ge w hw
        split
        · rename_i hwz
          split
          · have h2 := hp.ge w hw
            have h3 := hp.bt.up l hl w z hw hwz
            grind
          · exact h1
        · exact h1
      · have hlh := hr l h hl hh
        have h1 := hq.bt.dn h hh u v hu huv
        have h2 := mono (a := l) (b := h) (c := v - u) (by grind) (by grind)
        show (if v ≤ z then (if N - l * (z - v) < Q v then N - l * (z - v) else Q v) else Q v) ≤ (if u ≤ z then (if N - l * (z - u) < Q u then N - l * (z - u) else Q u) else Q u) + h * (v - u)
        by_cases hv : v ≤ z
        · rw [if_pos hv, if_pos (show u ≤ z by grind)]
          split <;> split <;> grind
        · rw [if_neg hv]
          split
          · rename_i hu2
            split
            · have h3 := hq.bt.dn h hh z v (by grind) (by grind)
              have h4 := mono (a := l) (b := h) (c := z - u) (by grind) (by grind)
              grind
            · exact h1
          · exact h1
    have : lar (Q y) (P y) ≤ lar (Q z) (P z) - l * (z - y) := lar_le (by grind) (by grind)
    show lar (Q y) (P y) + l * (z - y) ≤ lar (Q z) (P z)
    grind
  · -- never rises faster than the high rate
    have qz := hq.bt.dn h hh y z hy hz
    have my1 := lar_r (Q y) (P y)
    have my0 := lar_l (Q y) (P y)
    have main : P z ≤ lar (Q y) (P y) + h * (z - y) := by
      generalize hN : lar (Q y) (P y) = N at my1 my0
      have hle := hp.le (fun w => if y ≤ w then (if N + h * (w - y) < P w then N + h * (w - y) else P w) else P w) (fun w hw => ?_) ⟨fun l hl u v hu huv => ?_, fun _ q => by cases q⟩ z (by grind)
      · have hle : P z ≤ (if y ≤ z then (if N + h * (z - y) < P z then N + h * (z - y) else P z) else P z) := hle
        rw [if_pos hz] at hle
        split at hle
        · exact hle
        · grind
      · show F w ≤ (if y ≤ w then (if N + h * (w - y) < P w then N + h * (w - y) else P w) else P w)
        have h1 := hp.ge w hw
        split
        · rename_i hyw
          split
          · have h2 := hq.ge w hw
            have h3 := hq.bt.dn h hh y w hy hyw
            grind
          · exact h1
        · exact h1
      · have hlh := hr l h hl hh
        have h1 := hp.bt.up l hl u v hu huv
        have h2 := mono (a := l) (b := h) (c := v - u) (by grind) (by grind)
        show (if y ≤ u then (if N + h * (u - y) < P u then N + h * (u - y) else P u) else P u) + l * (v - u) ≤ (if y ≤ v then (if N + h * (v - y) < P v then N + h * (v - y) else P v) else P v)
        by_cases hu2 : y ≤ u
        · rw [if_pos hu2, if_pos (show y ≤ v by grind)]
          split <;> split <;> grind
        · rw [if_neg hu2]
          split
          · rename_i hv2
            split
            · have h3 := hp.bt.up l hl u y hu (by grind)
              have h4 := mono (a := l) (b := h) (c := v - y) (by grind) (by grind)
              grind
            · exact h1
          · exact h1
    exact lar_le (by grind) main
  · have hq' := hq.le G g1 ⟨fun _ q => (by cases q), g2.dn⟩ y hy
    have hp' := hp.le G g1 ⟨g2.up, fun _ q => (by cases q)⟩ y hy
    exact lar_le hq' hp'
def hiC (f : List Nd) (high : Option Rat) : List Nd := match high with
  | none => f
  | some h => sumC (hbC (subC f (lineC h))) (lineC h)
def loC (f : List Nd) (l : Rat) : List Nd := sumC (hsC (subC f (lineC l))) (lineC l)
def loHi (f : List Nd) (low high : Option Rat) : List Nd := match low with
  | none => hiC f high
  | some l => larC (hiC f high) (loC f l)
theorem lbC_is {f : List Nd} {low high : Option Rat} (hk : ∀ h, high = some h → ¬ h < (f.getLast?.getD n0).k) : lbC f low high = some (loHi f low high) := by
  unfold lbC
  cases high with
  | none => rfl
  | some h => exact if_neg (by rw [decide_eq_true_iff]; exact hk h rfl)
theorem hiC_ok {f : List Nd} (hf : Can f) {high : Option Rat} (hk : ∀ h, high = some h → ¬ h < (f.getLast?.getD n0).k) : Can (hiC f high) ∧ Lst (vl f) none high (vl (hiC f high)) := by
  cases high with
  | none => exact ⟨hf, lst_none _⟩
  | some h => exact lst_high hf.srt (hk h rfl)
/-- the least curve between rates -/
theorem loHi_ok {f : List Nd} (hf : Can f) {low high : Option Rat} (hr : RtLe low high) (hk : ∀ h, high = some h → ¬ h < (f.getLast?.getD n0).k) : Can (loHi f low high) ∧ Lst (vl f) low high (vl (loHi f low high)) := by
  obtain ⟨a1, a2⟩ := hiC_ok hf hk
  cases low with
  | none => exact ⟨a1, a2⟩
  | some l =>
    obtain ⟨b1, b2⟩ := lst_low hf.srt l
    obtain ⟨c1, c2⟩ := larC_ok a1.srt b1.srt
    exact ⟨c1, (lst_max hr b2 a2).congr fun y hy => (c2 y hy).symm⟩
theorem lbC_no {f : List Nd} {low high : Option Rat} (h : lbC f low high = none) : ∃ h, high = some h ∧ h < (f.getLast?.getD n0).k := by
  unfold lbC at h
  cases high with
  | none =>
    simp at h
  | some q =>
    refine ⟨q, rfl, ?_⟩
    by_cases hq : q < (f.getLast?.getD n0).k
    · exact hq
    · simp [hq] at h
theorem lbC_yes {f : List Nd} {low : Option Rat} {h : Rat} (hq : h < (f.getLast?.getD n0).k) : lbC f low (some h) = none := by
  unfold lbC
  exact if_pos (decide_eq_true hq)
/-! ### keeping between rates -/
def KL (l : Rat) : Nd → List Nd → Prop
  | n, [] => l ≤ n.k ∧ n.v ≤ n.s
  | n, m :: t => (l ≤ n.k ∧ n.v ≤ n.s) ∧ lineAt n m.x ≤ m.v ∧ KL l m t
def KH (h : Rat) : Nd → List Nd → Prop
  | n, [] => n.k ≤ h ∧ n.s ≤ n.v
  | n, m :: t => (n.k ≤ h ∧ n.s ≤ n.v) ∧ m.v ≤ lineAt n m.x ∧ KH h m t
theorem stepOk_iff {low high : Option Rat} {a b : Rat} : stepOk low high a b = true ↔ (∀ l, low = some l → a ≤ b) ∧ (∀ h, high = some h → b ≤ a) := by
  unfold stepOk
  cases low <;> cases high <;> simp [Rat.not_lt]
theorem slopeOk_iff {low high : Option Rat} {k : Rat} : slopeOk low high k = true ↔ (∀ l, low = some l → l ≤ k) ∧ (∀ h, high = some h → k ≤ h) := by
  unfold slopeOk
  cases low <;> cases high <;> simp [Rat.not_lt]
theorem keeps_aux {low high : Option Rat} : ∀ {t : List Nd} {n : Nd}, ((n :: t).all (fun n => slopeOk low high n.k) = true ∧ (stepOk low high n.v n.s && stepsOk low high (some n) t) = true) ↔ (∀ l, low = some l → KL l n t) ∧ ∀ h, high = some h → KH h n t
  | [], n => by
    simp only [List.all_cons, List.all_nil, Bool.and_true, stepsOk, slopeOk_iff, stepOk_iff, KL, KH]
    constructor
    · rintro ⟨⟨a, b⟩, c, d⟩
      exact ⟨fun l hl => ⟨a l hl, c l hl⟩, fun h hh => ⟨b h hh, d h hh⟩⟩
    · rintro ⟨a, b⟩
      exact ⟨⟨fun l hl => (a l hl).1, fun h hh => (b h hh).1⟩, fun l hl => (a l hl).2, fun h hh => (b h hh).2⟩
  | m :: t, n => by
    have ih := keeps_aux (low := low) (high := high) (t := t) (n := m)
    rw [List.all_cons, Bool.and_eq_true, Bool.and_eq_true]
    have e : stepsOk low high (some n) (m :: t) = (stepOk low high (lineAt n m.x) m.v && (stepOk low high m.v m.s && stepsOk low high (some m) t)) := rfl
    rw [e, Bool.and_eq_true, slopeOk_iff, stepOk_iff, stepOk_iff]
    constructor
    · rintro ⟨⟨⟨a, b⟩, c⟩, ⟨d1, d2⟩, ⟨g1, g2⟩, r⟩
      obtain ⟨i1, i2⟩ := ih.mp ⟨c, r⟩
      exact ⟨fun l hl => ⟨⟨a l hl, d1 l hl⟩, g1 l hl, i1 l hl⟩, fun h hh => ⟨⟨b h hh, d2 h hh⟩, g2 h hh, i2 h hh⟩⟩
    · rintro ⟨a, b⟩
      obtain ⟨i1, i2⟩ := ih.mpr ⟨fun l hl => (a l hl).2.2, fun h hh => (b h hh).2.2⟩
      exact ⟨⟨⟨fun l hl => (a l hl).1.1, fun h hh => (b h hh).1.1⟩, i1⟩, ⟨fun l hl => (a l hl).1.2, fun h hh => (b h hh).1.2⟩, ⟨fun l hl => (a l hl).2.1, fun h hh => (b h hh).2.1⟩, i2⟩
theorem KL.up {l : Rat} : ∀ {t : List Nd} {n : Nd}, Asc n t → KL l n t → ∀ y z, n.x ≤ y → y ≤ z → vv (ev n t y) y + l * (z - y) ≤ vv (ev n t z) z
  | t, n, ha, hk, y, z, hy, hz => by
    have hb : l ≤ n.k ∧ n.v ≤ n.s := by
      cases t with
      | nil => exact hk
      | cons m t => exact hk.1
    -- from y up to z along n's line
    have one : vv n y + l * (z - y) ≤ lineAt n z := by
      have h1 := mul_mono (c := z - y) hb.1 (by grind)
      have h2 := mul_mono (c := y - n.x) hb.1 (by grind)
      by_cases e : n.x = y
      · rw [← e, vv_x]
        unfold lineAt
        grind
      · rw [vv_lt (by grind)]
        unfold lineAt
        grind
    have own : vv n y + l * (z - y) ≤ vv n z := by
      by_cases e : y = z
      · subst e
        grind
      · rw [vv_lt (n := n) (y := z) (by grind)]
        exact one
    cases t with
    | nil => exact own
    | cons m t =>
      obtain ⟨_, k2, k3⟩ := hk
      by_cases h1 : z < m.x
      · rw [ev_first h1, ev_first (by grind)]
        exact own
      · by_cases h2 : y < m.x
        · rw [ev_first h2, ev_next h1]
          have h3 := KL.up ha.2 k3 m.x z Rat.le_refl (by grind)
          have e : ev m t m.x = m := by
            cases t with
            | nil => rfl
            | cons p t => exact ev_first ha.2.1
          rw [e, vv_x] at h3
          have h4 : vv n y + l * (m.x - y) ≤ lineAt n m.x := by
            have h1 := mul_mono (c := m.x - y) hb.1 (by grind)
            have h2 := mul_mono (c := y - n.x) hb.1 (by grind)
            by_cases e : n.x = y
            · rw [← e, vv_x]
              unfold lineAt
              grind
            · rw [vv_lt (by grind)]
              unfold lineAt
              grind
          grind
        · rw [ev_next h1, ev_next h2]
          exact KL.up ha.2 k3 y z (by grind) hz
termination_by t => t.length
theorem KL.of {l : Rat} : ∀ {t : List Nd} {n : Nd}, Asc n t → (∀ y z, n.x ≤ y → y ≤ z → vv (ev n t y) y + l * (z - y) ≤ vv (ev n t z) z) → KL l n t
  | t, n, ha, hu => by
    have e0 : ev n t n.x = n := by
      cases t with
      | nil => rfl
      | cons p t => exact ev_first ha.1
    obtain ⟨d, hd, hg⟩ := germ_v ha Rat.le_refl
    rw [e0, lineAt_x] at hg
    have hb : l ≤ n.k ∧ n.v ≤ n.s := by
      constructor
      · have h1 := hu (n.x + d / 3) (n.x + d / 2) (by grind) (by grind)
        rw [hg (d / 3) (by grind) (by grind), hg (d / 2) (by grind) (by grind)] at h1
        refine Rat.not_lt.mp fun hlt => ?_
        have h2 : n.k * (d / 6) < l * (d / 6) := Rat.mul_lt_mul_of_pos_right hlt (by grind)
        grind
      · refine lim_le hd (b := l - n.k) fun e e0' e1 => ?_
        have h1 := hu n.x (n.x + e) Rat.le_refl (by grind)
        rw [e0, vv_x, hg e e0' e1] at h1
        grind
    cases t with
    | nil => exact hb
    | cons m t =>
      have hnm := ha.1
      have e1 : ev m t m.x = m := by
        cases t with
        | nil => rfl
        | cons p t => exact ev_first ha.2.1
      refine ⟨hb, ?_, KL.of ha.2 fun y z hy hz => ?_⟩
      · refine lim_le (d := m.x - n.x) (by grind) (b := l - n.k) fun e e0' e2 => ?_
        have h1 := hu (m.x - e) m.x (by grind) (by grind)
        rw [ev_first (by grind), ev_next (by grind), e1, vv_x, vv_lt (by grind), lineAt_sub] at h1
        grind
      · have := hu y z (by grind) hz
        rw [ev_next (by grind), ev_next (by grind)] at this
        exact this
termination_by t => t.length
def negN (n : Nd) : Nd := ⟨n.x, -n.v, -n.s, -n.k⟩
theorem neg_line (n : Nd) (y : Rat) : lineAt (negN n) y = -lineAt n y := by
  unfold lineAt negN
  grind
theorem neg_ev : ∀ {t : List Nd} {n : Nd} {y : Rat}, ev (negN n) (t.map negN) y = negN (ev n t y)
  | [], _, _ => rfl
  | m :: t, n, y => by
    show (if y < m.x then negN n else ev (negN m) (t.map negN) y) = negN (if y < m.x then n else ev m t y)
    split
    · rfl
    · exact neg_ev
theorem neg_asc : ∀ {t : List Nd} {n : Nd}, Asc n t → Asc (negN n) (t.map negN)
  | [], _, _ => trivial
  | _ :: _, _, h => ⟨h.1, neg_asc h.2⟩
theorem neg_vv (n : Nd) (y : Rat) : vv (negN n) y = -vv n y := by
  unfold vv
  rw [neg_line]
  show (if n.x = y then -n.v else _) = _
  split <;> rfl
theorem KH_neg {h : Rat} : ∀ {t : List Nd} {n : Nd}, KH h n t ↔ KL (-h) (negN n) (t.map negN)
  | [], n => by
    show n.k ≤ h ∧ n.s ≤ n.v ↔ -h ≤ -n.k ∧ -n.v ≤ -n.s
    constructor <;> rintro ⟨a, b⟩ <;> constructor <;> grind
  | m :: t, n => by
    have ih := KH_neg (h := h) (t := t) (n := m)
    show (n.k ≤ h ∧ n.s ≤ n.v) ∧ m.v ≤ lineAt n m.x ∧ KH h m t ↔ (-h ≤ -n.k ∧ -n.v ≤ -n.s) ∧ lineAt (negN n) m.x ≤ -m.v ∧ KL (-h) (negN m) (t.map negN)
    rw [neg_line, ← ih]
    constructor
    · rintro ⟨⟨a, b⟩, c, d⟩
      exact ⟨⟨by grind, by grind⟩, by grind, d⟩
    · rintro ⟨⟨a, b⟩, c, d⟩
      exact ⟨⟨by grind, by grind⟩, by grind, d⟩
theorem keeps_iff {f : List Nd} (hf : Srt f) {low high : Option Rat} : keepsC f low high = true ↔ Bt low high (vl f) := by
  cases f with
  | nil => exact absurd hf id
  | cons n t =>
    obtain ⟨h1, h2⟩ := srt_iff.mp hf
    have hv : ∀ y, 0 ≤ y → vl (n :: t) y = vv (ev n t y) y := fun y hy => vl_eq h2 (by grind)
    have e : keepsC (n :: t) low high = ((n :: t).all (fun n => slopeOk low high n.k) && (true && (stepOk low high n.v n.s && stepsOk low high (some n) t))) := rfl
    rw [e, Bool.true_and, Bool.and_eq_true, keeps_aux]
    have low_iff : ∀ l, KL l n t ↔ Up l (vl (n :: t)) := by
      intro l
      constructor
      · intro hk y z hy hz
        rw [hv y hy, hv z (by grind)]
        exact KL.up h2 hk y z (by grind) hz
      · intro hu
        refine KL.of h2 fun y z hy hz => ?_
        rw [← hv y (by grind), ← hv z (by grind)]
        exact hu y z (by grind) hz
    have high_iff : ∀ h, KH h n t ↔ Dn h (vl (n :: t)) := by
      intro h
      rw [KH_neg]
      constructor
      · intro hk y z hy hz
        have := KL.up (neg_asc h2) hk y z (by show n.x ≤ y; grind) hz
        rw [neg_ev, neg_ev, neg_vv, neg_vv, ← hv y hy, ← hv z (by grind)] at this
        grind
      · intro hu
        refine KL.of (neg_asc h2) fun y z hy hz => ?_
        have hy : n.x ≤ y := hy
        rw [neg_ev, neg_ev, neg_vv, neg_vv, ← hv y (by grind), ← hv z (by grind)]
        have := hu y z (by grind) hz
        grind
    constructor
    · rintro ⟨a, b⟩
      exact ⟨fun l hl => (low_iff l).mp (a l hl), fun h hh => (high_iff h).mp (b h hh)⟩
    · rintro ⟨a, b⟩
      exact ⟨fun l hl => (low_iff l).mpr (a l hl), fun h hh => (high_iff h).mpr (b h hh)⟩
end K66
set_option autoImplicit false
/-! M6: what the law asks, of curves; places that lead. Core only. -/
namespace K66
abbrev Hk (f : List Nd) (high : Option Rat) : Prop := ∀ h, high = some h → ¬ h < (f.getLast?.getD n0).k
theorem hk_of {f : List Nd} (hf : Srt f) {low high : Option Rat} (hb : Bt low high (vl f)) : Hk f high := fun h hh => far_slope hf (A := vl f 0) fun y hy => by
  have := hb.dn h hh 0 y Rat.le_refl hy
  grind
theorem can_lst {f p q : List Nd} {low high : Option Rat} (hp : Can p) (hq : Can q) (h1 : Lst (vl f) low high (vl p)) (h2 : Lst (vl f) low high (vl q)) : p = q := can_eq hp hq (h1.uniq h2)
theorem lst_self {F : Rat → Rat} {low high : Option Rat} (h : Bt low high F) : Lst F low high F := ⟨fun _ _ => Rat.le_refl, h, fun _ g _ y hy => g y hy⟩
theorem loHi_self {f : List Nd} (hf : Can f) {low high : Option Rat} (hr : RtLe low high) (hb : Bt low high (vl f)) : loHi f low high = f := by
  obtain ⟨h1, h2⟩ := loHi_ok hf hr (hk_of hf.srt hb)
  exact can_lst h1 hf h2 (lst_self hb)
theorem larC_self {f g : List Nd} (hf : Srt f) (hg : Can g) (h : ∀ y, 0 ≤ y → vl f y ≤ vl g y) : larC g f = g := by
  obtain ⟨h1, h2⟩ := larC_ok hg.srt hf
  exact can_eq h1 hg fun y hy => by rw [h2 y hy, lar_eq_l (h y hy)]
theorem rtLe_low {low high : Option Rat} : RtLe low none := fun _ _ _ h => by cases h
theorem rtLe_high {high : Option Rat} : RtLe none high := fun _ _ h => by cases h
theorem hk_none (f : List Nd) : Hk f none := fun _ h => by cases h
section
variable {f : List Nd} {low high : Option Rat}
theorem fit_keeps (hf : Can f) (hr : RtLe low high) (hk : Hk f high) : keepsC (loHi f low high) low high = true := by
  obtain ⟨h1, h2⟩ := loHi_ok hf hr hk
  exact (keeps_iff h1.srt).mpr h2.bt
theorem fit_lar (hf : Can f) (hr : RtLe low high) (hk : Hk f high) : larC (loHi f low high) f = loHi f low high := by
  obtain ⟨h1, h2⟩ := loHi_ok hf hr hk
  exact larC_self hf.srt h1 h2.ge
theorem fit_self (hf : Can f) (hr : RtLe low high) (hk : Hk f high) : Hk (loHi f low high) high ∧ loHi (loHi f low high) low high = loHi f low high := by
  obtain ⟨h1, h2⟩ := loHi_ok hf hr hk
  exact ⟨hk_of h1.srt h2.bt, loHi_self h1 hr h2.bt⟩
theorem fit_dec (hf : Can f) (hr : RtLe low high) (hk : Hk f high) : keepsC f low high = decide (loHi f low high = f) := by
  by_cases hb : keepsC f low high = true
  · rw [hb, decide_eq_true (loHi_self hf hr ((keeps_iff hf.srt).mp hb))]
  · have hne : ¬ loHi f low high = f := by
      intro e
      have := fit_keeps hf hr hk
      rw [e] at this
      exact hb this
    rw [decide_eq_false hne]
    simpa using hb
theorem fit_max (hf : Can f) (hr : RtLe low high) (hk : Hk f high) : larC (loHi f low none) (loHi f none high) = loHi f low high := by
  obtain ⟨h1, h2⟩ := loHi_ok hf hr hk
  obtain ⟨p1, p2⟩ := loHi_ok hf (low := low) (high := none) (rtLe_low (high := none)) (hk_none f)
  obtain ⟨q1, q2⟩ := loHi_ok hf (low := none) (high := high) rtLe_high hk
  obtain ⟨m1, m2⟩ := larC_ok p1.srt q1.srt
  refine can_lst m1 h1 ((lst_max hr p2 q2).congr fun y hy => ?_) h2
  rw [m2 y hy]
  unfold lar
  split <;> split <;> grind
theorem fit_one (hf : Can f) (hr : RtLe low high) (hk : Hk f high) : Hk (loHi f low none) high ∧ loHi (loHi f low none) none high = loHi f low high := by
  obtain ⟨h1, h2⟩ := loHi_ok hf hr hk
  obtain ⟨p1, p2⟩ := loHi_ok hf (low := low) (high := none) (rtLe_low (high := none)) (hk_none f)
  have hle := p2.le (vl (loHi f low high)) h2.ge ⟨h2.bt.up, fun _ z => by cases z⟩
  have hk' : Hk (loHi f low none) high := fun h hh => far_slope p1.srt (A := vl (loHi f low high) 0) fun y hy => by
    have h3 := hle y hy
    have h4 := h2.bt.dn h hh 0 y Rat.le_refl hy
    grind
  refine ⟨hk', ?_⟩
  obtain ⟨q1, q2⟩ := loHi_ok p1 (low := none) (high := high) rtLe_high hk'
  obtain ⟨r1, r2⟩ := loHi_ok hf (low := none) (high := high) rtLe_high hk
  refine can_lst (f := loHi f low none) q1 h1 q2 ⟨hle, ⟨fun _ z => (by cases z), h2.bt.dn⟩, fun G g1 g2 y hy => ?_⟩
  have e := fit_max hf hr hk
  obtain ⟨m1, m2⟩ := larC_ok p1.srt r1.srt
  rw [← e, m2 y hy]
  refine lar_le (g1 y hy) (r2.le G (fun z hz => ?_) g2 y hy)
  have := p2.ge z hz
  have := g1 z hz
  grind
theorem fit_other (hf : Can f) (hr : RtLe low high) (hk : Hk f high) : loHi (loHi f none high) low none = loHi f low high := by
  obtain ⟨h1, h2⟩ := loHi_ok hf hr hk
  obtain ⟨p1, p2⟩ := loHi_ok hf (low := low) (high := none) (rtLe_low (high := none)) (hk_none f)
  obtain ⟨r1, r2⟩ := loHi_ok hf (low := none) (high := high) rtLe_high hk
  have hle := r2.le (vl (loHi f low high)) h2.ge ⟨fun _ z => (by cases z), h2.bt.dn⟩
  obtain ⟨q1, q2⟩ := loHi_ok r1 (low := low) (high := none) (rtLe_low (high := none)) (hk_none _)
  refine can_lst (f := loHi f none high) q1 h1 q2 ⟨hle, ⟨h2.bt.up, fun _ z => by cases z⟩, fun G g1 g2 y hy => ?_⟩
  have e := fit_max hf hr hk
  obtain ⟨m1, m2⟩ := larC_ok p1.srt r1.srt
  rw [← e, m2 y hy]
  refine lar_le (p2.le G (fun z hz => ?_) g2 y hy) (g1 y hy)
  have := r2.ge z hz
  have := g1 z hz
  grind
theorem is_high (hf : Can f) : loHi f (some 0) none = hsC f := by
  obtain ⟨h1, h2⟩ := loHi_ok hf (low := some 0) (high := none) (rtLe_low (high := none)) (hk_none f)
  obtain ⟨a1, a2, a3, a4⟩ := hsC_ok hf.srt
  refine can_lst h1 a1 h2 ⟨a2, ⟨fun l hl y z hy hz => ?_, fun _ z => by cases z⟩, fun G g1 g2 y hy => a4 G g1 (fun u v hu hv => ?_) y hy⟩
  · cases hl
    have := a3 y z hy hz
    grind
  · have := g2.up 0 rfl u v hu hv
    grind
theorem is_line {h : Rat} (hf : Can f) (hk : Hk f (some h)) : ∃ n : Nd, loHi f (some h) (some h) = [n] ∧ n.k = h := by
  have hr : RtLe (some h) (some h) := fun a b h1 h2 => by
    cases h1
    cases h2
    exact Rat.lt_irrefl
  obtain ⟨h1, h2⟩ := loHi_ok hf hr hk
  refine ⟨⟨0, vl (loHi f (some h) (some h)) 0, vl (loHi f (some h) (some h)) 0, h⟩, can_eq h1 ⟨srt_iff.mpr ⟨rfl, trivial⟩, rfl⟩ fun y hy => ?_, rfl⟩
  have u := h2.bt.up h rfl 0 y Rat.le_refl hy
  have d := h2.bt.dn h rfl 0 y Rat.le_refl hy
  generalize hA : vl (loHi f (some h) (some h)) 0 = A at u d
  rw [vl_eq (n := ⟨0, A, A, h⟩) (t := []) trivial hy]
  show _ = vv ⟨0, A, A, h⟩ y
  by_cases e : (0 : Rat) = y
  · rw [← e, hA]
    exact (vv_x ⟨0, A, A, h⟩).symm
  · rw [vv_lt (show (0 : Rat) < y by grind)]
    show _ = A + h * (y - 0)
    grind
theorem is_more {g : List Nd} (hf : Can f) (hg : Can g) (hr : RtLe low high) (hk : Hk f high) (hk2 : Hk (larC g f) high) : larC (loHi (larC g f) low high) (loHi f low high) = loHi (larC g f) low high := by
  obtain ⟨m1, m2⟩ := larC_ok hg.srt hf.srt
  obtain ⟨h1, h2⟩ := loHi_ok hf hr hk
  obtain ⟨p1, p2⟩ := loHi_ok m1 hr hk2
  refine larC_self h1.srt p1 (h2.le _ (fun y hy => ?_) p2.bt)
  have := p2.ge y hy
  rw [m2 y hy] at this
  have := lar_r (vl g y) (vl f y)
  grind
/-! ### places that lead -/
def cand (f : List Nd) (low high : Option Rat) (y : Rat) (p : Rat × Sd) : Option Rat :=
  if p.1 = y ∧ p.2 = .at_ then some (numAt f p.1 p.2)
  else if p.1 < y ∨ (p.1 = y ∧ p.2 = .before) then low.map fun l => numAt f p.1 p.2 + l * (y - p.1)
  else high.map fun h => numAt f p.1 p.2 - h * (p.1 - y)
theorem leads_cand {y : Rat} {p : Rat × Sd} {q : Rat} : leadsC f low high y p q = true ↔ cand f low high y p = some q := by
  unfold leadsC cand
  split
  · simp
  · split
    · cases low <;> simp
    · cases high <;> simp
theorem small_max {N : Rat} : ∀ {l : List (Rat × Sd)} {c : Rat × Sd → Option Rat}, (∀ p ∈ l, ∀ q, c p = some q → q < N) → ∃ m, m < N ∧ ∀ p ∈ l, ∀ q, c p = some q → q ≤ m
  | [], _, _ => ⟨N - 1, by grind, fun _ h => by cases h⟩
  | p :: l, c, h => by
    obtain ⟨m, h1, h2⟩ := small_max (l := l) (c := c) fun a ha => h a (List.mem_cons_of_mem _ ha)
    cases hc : c p with
    | none =>
      refine ⟨m, h1, fun a ha q hq => ?_⟩
      rcases List.mem_cons.mp ha with e | e
      · rw [e, hc] at hq
        cases hq
      · exact h2 a e q hq
    | some v =>
      have hv := h p List.mem_cons_self v hc
      refine ⟨lar m v, ?_, fun a ha q hq => ?_⟩
      · unfold lar
        split <;> assumption
      · rcases List.mem_cons.mp ha with e | e
        · rw [e, hc] at hq
          cases hq
          exact lar_r _ _
        · have := h2 a e q hq
          have := lar_l m v
          grind
theorem nextB : ∀ {t : List Nd} {n : Nd} {w y : Rat}, Asc n t → n.x ≤ w → w < y → ∃ u, w < u ∧ u ≤ y ∧ (u = y ∨ ∃ m ∈ t, m.x = u) ∧ evB n t u = ev n t w
  | [], n, w, y, _, _, hwy => ⟨y, hwy, Rat.le_refl, .inl rfl, rfl⟩
  | m :: t, n, w, y, h, hw, hwy => by
    by_cases h1 : w < m.x
    · rw [ev_first h1]
      by_cases h2 : m.x < y
      · exact ⟨m.x, h1, by grind, .inr ⟨m, List.mem_cons_self, rfl⟩, if_neg Rat.lt_irrefl⟩
      · exact ⟨y, hwy, Rat.le_refl, .inl rfl, if_neg h2⟩
    · rw [ev_next h1]
      obtain ⟨u, a, b, c, d⟩ := nextB h.2 (show m.x ≤ w by grind) hwy
      refine ⟨u, a, b, ?_, ?_⟩
      · rcases c with c | ⟨p, hp, e⟩
        · exact .inl c
        · exact .inr ⟨p, List.mem_cons_of_mem _ hp, e⟩
      · unfold evB
        rw [if_pos (by grind)]
        exact d
theorem nextR : ∀ {t : List Nd} {n : Nd} {w : Rat}, Asc n t → n.x ≤ w → ev n t w = lastN n t ∨ ∃ m ∈ t, w < m.x ∧ evB n t m.x = ev n t w
  | [], n, w, _, _ => .inl rfl
  | m :: t, n, w, h, hw => by
    by_cases h1 : w < m.x
    · rw [ev_first h1]
      exact .inr ⟨m, List.mem_cons_self, h1, if_neg Rat.lt_irrefl⟩
    · rw [ev_next h1]
      rcases nextR h.2 (show m.x ≤ w by grind) with q | ⟨p, hp, a, b⟩
      · exact .inl q
      · refine .inr ⟨p, List.mem_cons_of_mem _ hp, a, ?_⟩
        unfold evB
        rw [if_pos (by grind)]
        exact b
theorem ev_back : ∀ {t : List Nd} {n : Nd} {y w : Rat}, Asc n t → n.x ≤ y → y ≤ w → (ev n t w).x ≤ y → ev n t y = ev n t w
  | [], _, _, _, _, _, _, _ => rfl
  | m :: t, n, y, w, h, hy, hyw, hle => by
    by_cases h1 : w < m.x
    · rw [ev_first h1, ev_first (by grind)]
    · rw [ev_next h1] at hle ⊢
      have := (ev_le h.2 (y := w) (by grind)).1
      rw [ev_next (by grind)]
      exact ev_back h.2 (by grind) hyw hle
theorem ev_own {t : List Nd} {n : Nd} {w : Rat} (h : Asc n t) (hw : n.x ≤ w) : ev n t (ev n t w).x = ev n t w := by
  obtain ⟨a, b⟩ := ev_le h hw
  exact ev_back h a b Rat.le_refl
/-! ### a tent over a place -/
def tL (M : Rat → Rat) (low : Option Rat) (c y w : Rat) : Rat := match low with
  | none => M w
  | some l => c - l * (y - w)
def tH (M : Rat → Rat) (high : Option Rat) (c y w : Rat) : Rat := match high with
  | none => M w
  | some h => c + h * (w - y)
def tent (M : Rat → Rat) (low high : Option Rat) (c y w : Rat) : Rat := if w = y then c else if w < y then tL M low c y w else tH M high c y w
theorem tent_low {M : Rat → Rat} {high : Option Rat} {l c y w : Rat} (h : w ≤ y) : tent M (some l) high c y w = c - l * (y - w) := by
  unfold tent
  by_cases e : w = y
  · rw [if_pos e, e]
    grind
  · rw [if_neg e, if_pos (by grind)]
    rfl
theorem tent_high {M : Rat → Rat} {low : Option Rat} {h c y w : Rat} (hw : y ≤ w) : tent M low (some h) c y w = c + h * (w - y) := by
  unfold tent
  by_cases e : w = y
  · rw [if_pos e, e]
    grind
  · rw [if_neg e, if_neg (by grind)]
    rfl
theorem tent_nolow {M : Rat → Rat} {high : Option Rat} {c y w : Rat} (h : w < y) : tent M none high c y w = M w := by
  unfold tent
  rw [if_neg (by grind), if_pos h]
  rfl
theorem tent_nohigh {M : Rat → Rat} {low : Option Rat} {c y w : Rat} (h : y < w) : tent M low none c y w = M w := by
  unfold tent
  rw [if_neg (by grind), if_neg (by grind)]
  rfl
theorem tent_y {M : Rat → Rat} {low high : Option Rat} {c y : Rat} : tent M low high c y y = c := if_pos rfl
theorem tent_le {F M : Rat → Rat} {low high : Option Rat} {c y : Rat} (hr : RtLe low high) (hM : Lst F low high M) (hy : 0 ≤ y) (at_y : F y ≤ c) (behind : ∀ l, low = some l → ∀ w, 0 ≤ w → w < y → F w + l * (y - w) ≤ c)
    (ahead : ∀ h, high = some h → ∀ w, y < w → F w - h * (w - y) ≤ c) (hc : c ≤ M y) : M y ≤ c := by
  have key := hM.le (tent M low high c y) (fun w hw => ?_) ⟨fun l hl u v hu huv => ?_, fun h hh u v hu huv => ?_⟩ y hy
  · rw [tent_y] at key
    exact key
  · by_cases e : w = y
    · rw [e, tent_y]
      exact at_y
    · by_cases hlt : w < y
      · cases low with
        | none => rw [tent_nolow hlt]; exact hM.ge w hw
        | some l =>
          have := behind l rfl w hw hlt
          rw [tent_low (by grind)]
          grind
      · cases high with
        | none => rw [tent_nohigh (by grind)]; exact hM.ge w hw
        | some h =>
          have := ahead h rfl w (by grind)
          rw [tent_high (by grind)]
          grind
  · subst hl
    have hup := hM.bt.up l rfl
    by_cases u1 : u ≤ y
    · rw [tent_low u1]
      by_cases v1 : v ≤ y
      · rw [tent_low v1]
        grind
      · cases high with
        | none =>
          have := hup y v hy (by grind)
          rw [tent_nohigh (by grind)]
          grind
        | some h =>
          have h1 := mul_mono (a := l) (b := h) (c := v - y) (by have := hr l h rfl rfl; grind) (by grind)
          rw [tent_high (by grind)]
          grind
    · cases high with
      | none =>
        rw [tent_nohigh (by grind), tent_nohigh (by grind)]
        exact hup u v hu huv
      | some h =>
        have h1 := mul_mono (a := l) (b := h) (c := v - u) (by have := hr l h rfl rfl; grind) (by grind)
        rw [tent_high (by grind), tent_high (by grind)]
        grind
  · subst hh
    have hdn := hM.bt.dn h rfl
    by_cases v1 : y ≤ v
    · rw [tent_high v1]
      by_cases u1 : y ≤ u
      · rw [tent_high u1]
        grind
      · cases low with
        | none =>
          have := hdn u y hu (by grind)
          rw [tent_nolow (by grind)]
          grind
        | some l =>
          have h1 := mul_mono (a := l) (b := h) (c := y - u) (by have := hr l h rfl rfl; grind) (by grind)
          rw [tent_low (by grind)]
          grind
    · cases low with
      | none =>
        rw [tent_nolow (by grind), tent_nolow (by grind)]
        exact hdn u v hu huv
      | some l =>
        have h1 := mul_mono (a := l) (b := h) (c := v - u) (by have := hr l h rfl rfl; grind) (by grind)
        rw [tent_low (by grind), tent_low (by grind)]
        grind
/-- a place that leads to the value of the least curve -/
theorem lead_ex {M : Rat → Rat} (hf : Srt f) (hr : RtLe low high) (hk : Hk f high) (hM : Lst (vl f) low high M) {y : Rat} (hy : 0 ≤ y) : ∃ p ∈ places f y, cand f low high y p = some (M y) := by
  cases f with
  | nil => exact absurd hf id
  | cons n t =>
  obtain ⟨hx0, ha⟩ := srt_iff.mp hf
  have hv : ∀ z, 0 ≤ z → vl (n :: t) z = vv (ev n t z) z := fun z hz => vl_eq ha (by grind)
  have hst : ∀ z, 0 ≤ z → st (n :: t) z = lineAt (ev n t z) z := fun z hz => by
    show lineAt (near (n :: t) z) z = _
    rw [near_eq ha (by grind)]
  have hbf : ∀ z, 0 < z → numAt (n :: t) z .before = lineAt (evB n t z) z := fun z hz => by
    show lineAt ((((n :: t).filter fun n => decide (n.x < z)).getLast?).getD n0) z = _
    rw [bef_ev ha (by grind)]
    rfl
  -- which places there are
  have mem_node : ∀ m ∈ n :: t, ∀ sd, (sd = .before → 0 < m.x) → (m.x, sd) ∈ places (n :: t) y := by
    intro m hm sd hs
    refine List.mem_flatMap.mpr ⟨m.x, List.mem_append_left _ (List.mem_map.mpr ⟨m, hm, rfl⟩), ?_⟩
    unfold placesOf
    cases sd with
    | at_ => simp
    | after => simp
    | before => simp [hs rfl]
  have mem_y : ∀ sd, (sd = .before → 0 < y) → (y, sd) ∈ places (n :: t) y := by
    intro sd hs
    refine List.mem_flatMap.mpr ⟨y, List.mem_append_right _ (List.mem_singleton.mpr rfl), ?_⟩
    unfold placesOf
    cases sd with
    | at_ => simp
    | after => simp
    | before => simp [hs rfl]
  -- each candidate is at most the value
  have le_all : ∀ p ∈ places (n :: t) y, ∀ q, cand (n :: t) low high y p = some q → q ≤ M y := by
    rintro ⟨x, sd⟩ hp q hq
    have hx : 0 ≤ x ∧ (sd = .before → 0 < x) := by
      obtain ⟨z, hz, hp⟩ := List.mem_flatMap.mp hp
      have hz0 : 0 ≤ z := by
        rcases List.mem_append.mp hz with h | h
        · obtain ⟨m, hm, rfl⟩ := List.mem_map.mp h
          exact srt_nonneg hf hm
        · rw [List.mem_singleton.mp h]
          exact hy
      unfold placesOf at hp
      by_cases h0 : 0 < z
      · rw [if_pos h0] at hp
        simp at hp
        rcases hp with ⟨rfl, rfl⟩ | ⟨rfl, rfl⟩ | ⟨rfl, rfl⟩
        · exact ⟨hz0, fun h => by cases h⟩
        · exact ⟨hz0, fun h => by cases h⟩
        · exact ⟨hz0, fun _ => h0⟩
      · rw [if_neg h0] at hp
        simp at hp
        rcases hp with ⟨rfl, rfl⟩ | ⟨rfl, rfl⟩
        · exact ⟨hz0, fun h => by cases h⟩
        · exact ⟨hz0, fun h => by cases h⟩
    obtain ⟨hx0', hxb⟩ := hx
    unfold cand at hq
    by_cases c1 : x = y ∧ sd = .at_
    · rw [if_pos (by simpa using c1)] at hq
      obtain ⟨rfl, rfl⟩ := c1
      cases hq
      exact hM.ge x hx0'
    · rw [if_neg (by simpa using c1)] at hq
      by_cases c2 : x < y ∨ (x = y ∧ sd = .before)
      · rw [if_pos (by simpa using c2)] at hq
        cases hl : low with
        | none => rw [hl] at hq; cases hq
        | some l =>
          rw [hl] at hq
          have hq : numAt (n :: t) x sd + l * (y - x) = q := Option.some.inj hq
          rw [← hq]
          have up := hM.bt.up l hl
          cases sd with
          | at_ =>
            have h1 := hM.ge x hx0'
            have h2 := up x y hx0' (by grind)
            show vl (n :: t) x + l * (y - x) ≤ M y
            grind
          | after =>
            have hxy : x < y := by
              rcases c2 with c2 | ⟨_, c2⟩
              · exact c2
              · cases c2
            obtain ⟨d, hd, hg⟩ := germ_v ha (y := x) (by grind)
            show st (n :: t) x + l * (y - x) ≤ M y
            rw [hst x hx0']
            have hd2 : 0 < (if d < y - x then d else y - x) := by split <;> grind
            refine lim_le hd2 (b := (ev n t x).k - l) fun e e0 e1 => ?_
            have e2 : e < d ∧ e < y - x := by split at e1 <;> grind
            have h1 := hM.ge (x + e) (by grind)
            rw [hv (x + e) (by grind), hg e e0 e2.1] at h1
            have h2 := up (x + e) y (by grind) (by grind)
            grind
          | before =>
            have hx1 := hxb rfl
            obtain ⟨d, hd, hg⟩ := germ_vB ha (y := x) (by grind)
            rw [hbf x hx1]
            have hxy : x ≤ y := by
              rcases c2 with c2 | ⟨c2, _⟩
              · grind
              · grind
            have hd2 : 0 < (if d < x then d else x) := by split <;> grind
            refine lim_le hd2 (b := l - (evB n t x).k) fun e e0 e1 => ?_
            have e2 : e < d ∧ e < x := by split at e1 <;> grind
            obtain ⟨g1, g2⟩ := hg e e0 e2.1
            have h1 := hM.ge (x - e) (by grind)
            rw [hv (x - e) (by grind), g2] at h1
            have h2 := up (x - e) y (by grind) (by grind)
            grind
      · rw [if_neg (by simpa using c2)] at hq
        cases hh : high with
        | none => rw [hh] at hq; cases hq
        | some h =>
          rw [hh] at hq
          have hq : numAt (n :: t) x sd - h * (x - y) = q := Option.some.inj hq
          rw [← hq]
          have dn := hM.bt.dn h hh
          cases sd with
          | at_ =>
            have hxy : y ≤ x := by grind
            have h1 := hM.ge x hx0'
            have h2 := dn y x hy hxy
            show vl (n :: t) x - h * (x - y) ≤ M y
            grind
          | after =>
            have hxy : y ≤ x := by grind
            obtain ⟨d, hd, hg⟩ := germ_v ha (y := x) (by grind)
            show st (n :: t) x - h * (x - y) ≤ M y
            rw [hst x hx0']
            refine lim_le hd (b := (ev n t x).k - h) fun e e0 e1 => ?_
            have h1 := hM.ge (x + e) (by grind)
            rw [hv (x + e) (by grind), hg e e0 e1] at h1
            have h2 := dn y (x + e) hy (by grind)
            grind
          | before =>
            have hxy : y < x := by
              refine Rat.not_le.mp fun hle => c2 ?_
              by_cases e : x = y
              · exact .inr ⟨e, rfl⟩
              · exact .inl (by grind)
            have hx1 := hxb rfl
            obtain ⟨d, hd, hg⟩ := germ_vB ha (y := x) (by grind)
            rw [hbf x hx1]
            have hd2 : 0 < (if d < x - y then d else x - y) := by split <;> grind
            refine lim_le hd2 (b := h - (evB n t x).k) fun e e0 e1 => ?_
            have e2 : e < d ∧ e < x - y := by split at e1 <;> grind
            obtain ⟨g1, g2⟩ := hg e e0 e2.1
            have h1 := hM.ge (x - e) (by grind)
            rw [hv (x - e) (by grind), g2] at h1
            have h2 := dn y (x - e) hy (by grind)
            grind
  -- if none of them is the value, there is a smaller curve
  refine Classical.byContradiction fun hno => ?_
  obtain ⟨c, hc, hall⟩ := small_max (N := M y) (l := places (n :: t) y) (c := cand (n :: t) low high y) fun p hp q hq => by
    have h1 := le_all p hp q hq
    have h2 : q ≠ M y := fun e => hno ⟨p, hp, by rw [hq, e]⟩
    grind
  have at_y : vl (n :: t) y ≤ c := hall (y, .at_) (mem_y _ fun h => by cases h) _ (by unfold cand; rw [if_pos ⟨rfl, rfl⟩]; rfl)
  have behind : ∀ l, low = some l → ∀ w, 0 ≤ w → w < y → vl (n :: t) w + l * (y - w) ≤ c := by
    intro l hl w hw hwy
    have hcand : ∀ x sd, (x < y ∨ (x = y ∧ sd = .before)) → ((x, sd) : Rat × Sd) ∈ places (n :: t) y → numAt (n :: t) x sd + l * (y - x) ≤ c := by
      intro x sd h1 h2
      refine hall (x, sd) h2 _ ?_
      unfold cand
      rw [if_neg, if_pos h1, hl]
      · rfl
      · rintro ⟨a, b⟩
        have a : x = y := a
        have b : sd = .at_ := b
        rcases h1 with h1 | ⟨_, h1⟩
        · grind
        · rw [b] at h1; cases h1
    rw [hv w hw]
    obtain ⟨w1, w2⟩ := ev_le ha (y := w) (by grind)
    have hm : ev n t w ∈ n :: t := ev_mem
    have own := ev_own ha (w := w) (by grind)
    by_cases e : (ev n t w).x = w
    · have h1 := hcand (ev n t w).x .at_ (.inl (by grind)) (mem_node _ hm _ fun h => by cases h)
      have h2 : numAt (n :: t) (ev n t w).x .at_ = vv (ev n t w) w := by
        show vl (n :: t) (ev n t w).x = _
        rw [e]
        exact hv w hw
      rw [h2] at h1
      rw [e] at h1
      exact h1
    · rw [vv_lt (by grind)]
      by_cases hk' : (ev n t w).k ≤ l
      · have h1 := hcand (ev n t w).x .after (.inl (by grind)) (mem_node _ hm _ fun h => by cases h)
        have h2 : numAt (n :: t) (ev n t w).x .after = (ev n t w).s := by
          show st (n :: t) (ev n t w).x = _
          rw [hst _ (by grind), own, lineAt_x]
        rw [h2] at h1
        have h3 := mul_mono (c := w - (ev n t w).x) hk' (by grind)
        unfold lineAt
        grind
      · obtain ⟨u, u1, u2, u3, u4⟩ := nextB ha (show n.x ≤ w by grind) hwy
        have hb : numAt (n :: t) u .before = lineAt (ev n t w) u := by rw [hbf u (by grind), u4]
        have h1 : numAt (n :: t) u .before + l * (y - u) ≤ c := by
          rcases u3 with rfl | ⟨m, hm2, rfl⟩
          · exact hcand u .before (.inr ⟨rfl, rfl⟩) (mem_y _ fun _ => by grind)
          · refine hcand m.x .before ?_ (mem_node _ (List.mem_cons_of_mem _ hm2) _ fun _ => by grind)
            by_cases q : m.x = y
            · exact .inr ⟨q, rfl⟩
            · exact .inl (by grind)
        rw [hb] at h1
        have h3 := mul_mono (a := l) (b := (ev n t w).k) (c := u - w) (by grind) (by grind)
        unfold lineAt at h1 ⊢
        grind
  have ahead : ∀ h, high = some h → ∀ w, y < w → vl (n :: t) w - h * (w - y) ≤ c := by
    intro h hh w hwy
    have hcand : ∀ x sd, ¬ (x = y ∧ sd = .at_) → ¬ (x < y ∨ (x = y ∧ sd = .before)) → ((x, sd) : Rat × Sd) ∈ places (n :: t) y → numAt (n :: t) x sd - h * (x - y) ≤ c := by
      intro x sd h1 h2 h3
      refine hall (x, sd) h3 _ ?_
      unfold cand
      rw [if_neg h1, if_neg h2, hh]
      rfl
    have hw : 0 ≤ w := by grind
    rw [hv w hw]
    obtain ⟨w1, w2⟩ := ev_le ha (y := w) (by grind)
    have hm : ev n t w ∈ n :: t := ev_mem
    have own := ev_own ha (w := w) (by grind)
    by_cases e : (ev n t w).x = w
    · have h1 := hcand (ev n t w).x .at_ (by grind) (by grind) (mem_node _ hm _ fun h => by cases h)
      have h2 : numAt (n :: t) (ev n t w).x .at_ = vv (ev n t w) w := by
        show vl (n :: t) (ev n t w).x = _
        rw [e]
        exact hv w hw
      rw [h2] at h1
      rw [e] at h1
      exact h1
    · rw [vv_lt (by grind)]
      by_cases hk' : (ev n t w).k ≤ h
      · by_cases hxy : y ≤ (ev n t w).x
        · have h1 := hcand (ev n t w).x .after (by simp) (by simp; grind) (mem_node _ hm _ fun h => by cases h)
          have h2 : numAt (n :: t) (ev n t w).x .after = (ev n t w).s := by
            show st (n :: t) (ev n t w).x = _
            rw [hst _ (by grind), own, lineAt_x]
          rw [h2] at h1
          have h3 := mul_mono (c := w - (ev n t w).x) hk' (by grind)
          unfold lineAt
          grind
        · have h1 := hcand y .after (by simp) (by simp [Rat.lt_irrefl]) (mem_y _ fun h => by cases h)
          have h2 : numAt (n :: t) y .after = lineAt (ev n t w) y := by
            show st (n :: t) y = _
            rw [hst y hy, ev_back ha (by grind) (show y ≤ w by grind) (by grind)]
          rw [h2] at h1
          have h3 := mul_mono (c := w - y) hk' (by grind)
          unfold lineAt at h1 ⊢
          grind
      · rcases nextR ha (show n.x ≤ w by grind) with q | ⟨m, hm2, m1, m2⟩
        · have := hk h hh
          rw [lastN_is, ← q] at this
          exact absurd (by grind) this
        · have h1 := hcand m.x .before (by simp) (by simp; grind) (mem_node _ (List.mem_cons_of_mem _ hm2) _ fun _ => by grind)
          rw [hbf m.x (by grind), m2] at h1
          have h3 := mul_mono (a := h) (b := (ev n t w).k) (c := m.x - w) (by grind) (by grind)
          unfold lineAt at h1 ⊢
          grind
  have := tent_le hr hM hy at_y behind ahead (by grind)
  grind
end
theorem reach_some {f : List Nd} {low high : Option Rat} (hf : Can f) (hr : RtLe low high) (hk : Hk f high) {y : Rat} (hy : 0 ≤ y) : ∃ p, reachC f low high y = some p := by
  obtain ⟨h1, h2⟩ := loHi_ok hf hr hk
  obtain ⟨p, hp, hc⟩ := lead_ex hf.srt hr hk h2 hy
  have e : reachC f low high y = (places f y).find? fun p => leadsC f low high y p (vl (loHi f low high) y) := by
    unfold reachC
    rw [lbC_is hk]
  rw [e]
  cases hq : (places f y).find? fun p => leadsC f low high y p (vl (loHi f low high) y) with
  | some q => exact ⟨q, rfl⟩
  | none =>
    have := List.find?_eq_none.mp hq p hp
    exact absurd (leads_cand.mpr hc) this
end K66
set_option autoImplicit false
/-! M7: heights of the numbers of curves. Core only. -/
namespace K66
/-- where a node's line meets the income 0 -/
def itc (n : Nd) : Rat := n.s - n.k * n.x
structure CB (L X S A V : Nat) (f : List Nd) : Prop where
  len : f.length ≤ L
  x : ∀ n ∈ f, Ht X n.x
  k : ∀ n ∈ f, Ht S n.k
  a : ∀ n ∈ f, Ht A (itc n)
  v : ∀ n ∈ f, Ht V n.v
theorem CB.mono {L X S A V L' X' S' A' V' : Nat} {f : List Nd} (h : CB L X S A V f) (h1 : L ≤ L') (h2 : X ≤ X') (h3 : S ≤ S') (h4 : A ≤ A') (h5 : V ≤ V') : CB L' X' S' A' V' f :=
  ⟨Nat.le_trans h.len h1, fun n hn => (h.x n hn).mono h2, fun n hn => (h.k n hn).mono h3, fun n hn => (h.a n hn).mono h4, fun n hn => (h.v n hn).mono h5⟩
theorem len_ite {c : Prop} [Decidable c] {a : Nd} : (if c then [a] else ([] : List Nd)).length ≤ 1 := by
  by_cases h : c
  · rw [if_pos h]
    exact Nat.le_refl _
  · rw [if_neg h]
    exact Nat.zero_le _
theorem mem_ite {c : Prop} [Decidable c] {a q : Nd} (h : q ∈ (if c then [a] else ([] : List Nd))) : q = a := by
  by_cases hc : c
  · rw [if_pos hc] at h
    exact List.mem_singleton.mp h
  · rw [if_neg hc] at h
    cases h
theorem thin_sub : ∀ (t : List Nd) (n : Nd), (∀ m ∈ thin n t, m ∈ t) ∧ (thin n t).length ≤ t.length
  | [], _ => ⟨fun _ h => h, Nat.le_refl _⟩
  | a :: t, n => by
    unfold thin
    split
    · obtain ⟨h1, h2⟩ := thin_sub t n
      exact ⟨fun m hm => List.mem_cons_of_mem _ (h1 m hm), Nat.le_succ_of_le h2⟩
    · obtain ⟨h1, h2⟩ := thin_sub t a
      refine ⟨fun m hm => ?_, Nat.succ_le_succ h2⟩
      rcases List.mem_cons.mp hm with q | q
      · rw [q]; exact List.mem_cons_self
      · exact List.mem_cons_of_mem _ (h1 m q)
theorem mk_sub (f : List Nd) : (∀ m ∈ mkC f, m ∈ f) ∧ (mkC f).length ≤ f.length := by
  cases f with
  | nil => exact ⟨fun _ h => h, Nat.le_refl _⟩
  | cons n t =>
    obtain ⟨h1, h2⟩ := thin_sub t n
    refine ⟨fun m hm => ?_, Nat.succ_le_succ h2⟩
    rcases List.mem_cons.mp hm with q | q
    · rw [q]; exact List.mem_cons_self
    · exact List.mem_cons_of_mem _ (h1 m q)
theorem CB.thin {L X S A V : Nat} {f : List Nd} (h : CB L X S A V f) : CB L X S A V (mkC f) := by
  obtain ⟨h1, h2⟩ := mk_sub f
  exact ⟨Nat.le_trans h2 h.len, fun n hn => h.x n (h1 n hn), fun n hn => h.k n (h1 n hn), fun n hn => h.a n (h1 n hn), fun n hn => h.v n (h1 n hn)⟩
theorem line_itc (n : Nd) (y : Rat) : lineAt n y = itc n + n.k * y := by
  unfold lineAt itc
  grind
theorem line_ht {n : Nd} {y : Rat} {A S Y : Nat} (ha : Ht A (itc n)) (hk : Ht S n.k) (hy : Ht Y y) : Ht (A + S + Y + 1) (lineAt n y) := by
  rw [line_itc]
  exact (ha.add (hk.mul hy)).mono (by omega)
theorem s_ht {n : Nd} {A S X : Nat} (ha : Ht A (itc n)) (hk : Ht S n.k) (hx : Ht X n.x) : Ht (A + S + X + 1) n.s := by
  rw [← lineAt_x]
  exact line_ht ha hk hx
theorem near_node {f : List Nd} (hf : Srt f) {n : Nd} (hn : n ∈ f) : near f n.x = n := by
  cases f with
  | nil => cases hn
  | cons a t =>
    obtain ⟨h1, h2⟩ := srt_iff.mp hf
    have h0 := srt_nonneg hf hn
    rw [near_eq h2 (by grind)]
    have key : ∀ {t : List Nd} {a : Nd}, Asc a t → n ∈ a :: t → ev a t n.x = n := by
      intro t
      induction t with
      | nil =>
        intro a _ hm
        rw [List.mem_singleton.mp hm]
        rfl
      | cons b t ih =>
        intro a ha hm
        rcases List.mem_cons.mp hm with q | q
        · rw [q]
          exact ev_first ha.1
        · have hle : b.x ≤ n.x := by
            rcases List.mem_cons.mp q with z | z
            · rw [z]; exact Rat.le_refl
            · have := asc_lt ha.2 z
              grind
          rw [ev_next (by grind)]
          exact ih ha.2 q
    exact key h2 hn
section
variable {L X S A V : Nat} {f : List Nd}
theorem near_ht (hf : Srt f) (h : CB L X S A V f) {y : Rat} (hy : 0 ≤ y) : Ht X (near f y).x ∧ Ht S (near f y).k ∧ Ht A (itc (near f y)) ∧ Ht V (near f y).v := by
  have hm := (near_le hf hy).1
  exact ⟨h.x _ hm, h.k _ hm, h.a _ hm, h.v _ hm⟩
theorem st_ht (hf : Srt f) (h : CB L X S A V f) {y : Rat} {Y : Nat} (hy : 0 ≤ y) (hY : Ht Y y) : Ht (A + S + Y + 1) (st f y) := by
  obtain ⟨h1, h2, h3, h4⟩ := near_ht hf h hy
  exact line_ht h3 h2 hY
theorem vl_ht (hf : Srt f) (h : CB L X S A V f) {y : Rat} {Y W : Nat} (hy : 0 ≤ y) (hY : Ht Y y) (h1 : V ≤ W) (h2 : A + S + Y + 1 ≤ W) : Ht W (vl f y) := by
  obtain ⟨q1, q2, q3, q4⟩ := near_ht hf h hy
  unfold vl
  split
  · exact q4.mono h1
  · exact (line_ht q3 q2 hY).mono h2
/-! ### a line more -/
theorem sca_line (l : Rat) : scaC (lineC l) (-1) = lineC (-l) := by
  show ([⟨0, 0 * -1, 0 * -1, l * -1⟩] : List Nd) = [⟨0, 0, 0, -l⟩]
  have e1 : (0 : Rat) * -1 = 0 := by grind
  have e2 : l * -1 = -l := by grind
  rw [e1, e2]
theorem line_cb {K : Nat} {m : Rat} (h : Ht K m) : CB 1 1 K 1 1 (lineC m) := by
  have e : ∀ n ∈ lineC m, n = ⟨0, 0, 0, m⟩ := fun n hn => List.mem_singleton.mp hn
  refine ⟨Nat.le_refl _, fun n hn => ?_, fun n hn => ?_, fun n hn => ?_, fun n hn => ?_⟩
  · rw [e n hn]; exact ht_zero
  · rw [e n hn]; exact h
  · rw [e n hn]
    have : itc ⟨0, 0, 0, m⟩ = 0 := by
      unfold itc
      grind
    rw [this]
    exact ht_zero
  · rw [e n hn]; exact ht_zero
theorem line_near (m y : Rat) (hy : 0 ≤ y) : near (lineC m) y = ⟨0, 0, 0, m⟩ := by
  unfold lineC
  rw [near_eq (n := ⟨0, 0, 0, m⟩) (t := []) trivial hy]
  rfl
theorem len_ins (l : List Rat) (q : Rat) : (insA l q).length ≤ l.length + 1 := by
  unfold insA
  split
  · exact Nat.le_succ _
  · rw [List.length_append, List.length_append, List.length_take, List.length_drop, List.length_singleton]
    omega
theorem len_ins_fold : ∀ (qs l : List Rat), (qs.foldl insA l).length ≤ l.length + qs.length
  | [], _ => Nat.le_refl _
  | q :: qs, l => by
    have h := len_ins_fold qs (insA l q)
    have h2 := len_ins l q
    rw [List.length_cons]
    show (qs.foldl insA (insA l q)).length ≤ _
    omega
theorem incs_len (f g : List Nd) : (incs f g).length ≤ f.length + g.length := by
  have h := len_ins_fold ((f ++ g).map (·.x)) []
  rw [List.length_map, List.length_append, List.length_nil, Nat.zero_add] at h
  exact h
theorem incs_line (hf : Srt f) (m : Rat) {y : Rat} (hy : y ∈ incs f (lineC m)) : ∃ n ∈ f, n.x = y := by
  rcases (incs_ok f (lineC m)).2 y |>.mp hy with h | ⟨n, hn, e⟩
  · exact h
  · obtain ⟨a, ha, e0⟩ := srt_zero hf
    refine ⟨a, ha, ?_⟩
    rw [e0, ← e, List.mem_singleton.mp hn]
theorem sum_cb (hf : Srt f) (h : CB L X S A V f) {m : Rat} {K : Nat} (hm : Ht K m) : CB (L + 1) X (S + K + 1) A (V + K + X + 1) ((incs f (lineC m)).map (sumNd f (lineC m))) := by
  have key : ∀ q ∈ (incs f (lineC m)).map (sumNd f (lineC m)), ∃ n ∈ f, q = ⟨n.x, n.v + m * n.x, n.s + m * n.x, n.k + m⟩ := by
    intro q hq
    obtain ⟨y, hy, rfl⟩ := List.mem_map.mp hq
    obtain ⟨n, hn, rfl⟩ := incs_line hf m hy
    have h0 := srt_nonneg hf hn
    refine ⟨n, hn, ?_⟩
    have e1 : vl f n.x = n.v := by
      show vv (near f n.x) n.x = _
      rw [near_node hf hn, vv_x]
    have e2 : st f n.x = n.s := by
      show lineAt (near f n.x) n.x = _
      rw [near_node hf hn, lineAt_x]
    have e3 : sl f n.x = n.k := by
      show (near f n.x).k = _
      rw [near_node hf hn]
    have e4 : st (lineC m) n.x = m * n.x := by
      show lineAt (near (lineC m) n.x) n.x = _
      rw [line_near m _ h0]
      show 0 + m * (n.x - 0) = _
      grind
    have e5 : sl (lineC m) n.x = m := by
      show (near (lineC m) n.x).k = _
      rw [line_near m _ h0]
    unfold sumNd
    rw [e1, e2, e3, e4, e5, line_vl m h0]
  refine ⟨?_, fun q hq => ?_, fun q hq => ?_, fun q hq => ?_, fun q hq => ?_⟩
  · rw [List.length_map]
    have := incs_len f (lineC m)
    have := h.len
    have : (lineC m).length = 1 := rfl
    omega
  · obtain ⟨n, hn, rfl⟩ := key q hq
    exact h.x n hn
  · obtain ⟨n, hn, rfl⟩ := key q hq
    exact (h.k n hn).add hm
  · obtain ⟨n, hn, rfl⟩ := key q hq
    have : itc ⟨n.x, n.v + m * n.x, n.s + m * n.x, n.k + m⟩ = itc n := by
      unfold itc
      grind
    rw [this]
    exact h.a n hn
  · obtain ⟨n, hn, rfl⟩ := key q hq
    exact ((h.v n hn).add (hm.mul (h.x n hn))).mono (by omega)
theorem sub_cb (hf : Srt f) (h : CB L X S A V f) {l : Rat} {K : Nat} (hl : Ht K l) : CB (L + 1) X (S + K + 1) A (V + K + X + 1) (subC f (lineC l)) := by
  show CB _ _ _ _ _ (sumC f (scaC (lineC l) (-1)))
  rw [sca_line]
  exact (sum_cb hf h hl.neg).thin
/-! ### the greater one -/
theorem lar_mem {g : List Nd} : ∀ {xs : List Rat} {q : Nd}, q ∈ larN f g xs → ∃ y ∈ xs, q = larNd f g y ∨ ∃ z, cross y (st f y) (sl f y) (st g y) (sl g y) = some z ∧ q = ⟨z, lineAt ⟨y, vl f y, st f y, sl f y⟩ z, lineAt ⟨y, vl f y, st f y, sl f y⟩ z, if sl f y < sl g y then sl g y else sl f y⟩
  | [], q, h => by cases h
  | y :: r, q, h => by
    rw [larN_cons'] at h
    rcases List.mem_cons.mp h with e | h
    · exact ⟨y, List.mem_cons_self, .inl e⟩
    · rcases List.mem_append.mp h with h | h
      · refine ⟨y, List.mem_cons_self, .inr ?_⟩
        unfold larX at h
        cases hc : cross y (st f y) (sl f y) (st g y) (sl g y) with
        | none => rw [hc] at h; cases h
        | some z =>
          rw [hc] at h
          simp only [List.mem_ite_nil_right, List.mem_singleton] at h
          exact ⟨z, rfl, h.2⟩
      · obtain ⟨y', h1, h2⟩ := lar_mem h
        exact ⟨y', List.mem_cons_of_mem _ h1, h2⟩
theorem lar_len {g : List Nd} : ∀ xs : List Rat, (larN f g xs).length ≤ 2 * xs.length
  | [] => Nat.le_refl _
  | y :: r => by
    have h := lar_len (g := g) r
    have h2 : (larX f g y r.head?).length ≤ 1 := by
      unfold larX
      cases cross y (st f y) (sl f y) (st g y) (sl g y) with
      | none => exact Nat.zero_le _
      | some z => exact len_ite
    rw [larN_cons', List.length_cons, List.length_append, List.length_cons]
    omega
theorem cross_eq {y a1 a2 b1 b2 z : Rat} (h : cross y a1 a2 b1 b2 = some z) : b2 - a2 ≠ 0 ∧ z = ((a1 - a2 * y) - (b1 - b2 * y)) / (b2 - a2) ∧ y < z ∧ a1 + a2 * (z - y) = b1 + b2 * (z - y) := by
  unfold cross at h
  by_cases h0 : a1 - b1 = 0 ∨ b2 - a2 = 0
  · rw [if_pos h0] at h
    cases h
  · rw [if_neg h0] at h
    have hk : b2 - a2 ≠ 0 := fun e => h0 (.inr e)
    have hw : (a1 - b1) / (b2 - a2) * (b2 - a2) = a1 - b1 := by grind
    by_cases hp : 0 < (a1 - b1) / (b2 - a2)
    · rw [if_pos hp] at h
      have h := Option.some.inj h
      refine ⟨hk, ?_, by grind, ?_⟩
      · rw [← h]
        grind
      · rw [← h]
        generalize (a1 - b1) / (b2 - a2) = w at hw
        grind
    · rw [if_neg hp] at h
      cases h
theorem itc_is {g : List Nd} {y : Rat} : st g y - sl g y * y = itc (near g y) := by
  show lineAt (near g y) y - (near g y).k * y = _
  rw [line_itc]
  grind
theorem lar_cb {g : List Nd} {L' X2 V2 : Nat} (hf : Srt f) (hg : Srt g) (h : CB L X S A V f) (h' : CB L' X S A V g) (x1 : X ≤ X2) (x2 : 2 * A + 2 * S + 2 ≤ X2) (v1 : V ≤ V2) (v2 : A + S + X2 + 1 ≤ V2) :
    CB (2 * (L + L')) X2 S A V2 (larN f g (incs f g)) ∧ ∀ y ∈ incs f g, 0 ≤ y ∧ Ht X y ∧ ∀ z, cross y (st f y) (sl f y) (st g y) (sl g y) = some z → Ht X2 z := by
  have hy : ∀ y ∈ incs f g, 0 ≤ y ∧ Ht X y := by
    intro y hy
    rcases (incs_ok f g).2 y |>.mp hy with ⟨n, hn, e⟩ | ⟨n, hn, e⟩
    · rw [← e]; exact ⟨srt_nonneg hf hn, h.x n hn⟩
    · rw [← e]; exact ⟨srt_nonneg hg hn, h'.x n hn⟩
  have hz : ∀ y ∈ incs f g, ∀ z, cross y (st f y) (sl f y) (st g y) (sl g y) = some z → Ht X2 z := by
    intro y hyi z hc
    obtain ⟨c1, c2, _, _⟩ := cross_eq hc
    obtain ⟨y0, _⟩ := hy y hyi
    rw [c2, itc_is, itc_is]
    obtain ⟨_, a2, a3, _⟩ := near_ht hf h y0
    obtain ⟨_, b2, b3, _⟩ := near_ht hg h' y0
    exact ((a3.sub b3).div (b2.sub a2) c1).mono (by omega)
  refine ⟨⟨?_, fun q hq => ?_, fun q hq => ?_, fun q hq => ?_, fun q hq => ?_⟩, fun y hyi => ⟨(hy y hyi).1, (hy y hyi).2, hz y hyi⟩⟩
  · have := lar_len (f := f) (g := g) (incs f g)
    have := incs_len f g
    have := h.len
    have := h'.len
    omega
  · obtain ⟨y, hyi, rfl | ⟨z, hc, rfl⟩⟩ := lar_mem hq
    · exact (hy y hyi).2.mono x1
    · exact hz y hyi z hc
  · obtain ⟨y, hyi, hq⟩ := lar_mem hq
    obtain ⟨y0, _⟩ := hy y hyi
    have a2 : Ht S (sl f y) := (near_ht hf h y0).2.1
    have b2 : Ht S (sl g y) := (near_ht hg h' y0).2.1
    rcases hq with rfl | ⟨z, hc, rfl⟩
    · show Ht S (larP (st f y) (sl f y) (st g y) (sl g y)).2
      unfold larP
      split
      · exact a2.lar b2
      · split <;> assumption
    · exact b2.ite a2
  · obtain ⟨y, hyi, hq⟩ := lar_mem hq
    obtain ⟨y0, _⟩ := hy y hyi
    have a3 := (near_ht hf h y0).2.2.1
    have b3 := (near_ht hg h' y0).2.2.1
    rw [← itc_is] at a3 b3
    rcases hq with rfl | ⟨z, hc, rfl⟩
    · show Ht A ((larP (st f y) (sl f y) (st g y) (sl g y)).1 - (larP (st f y) (sl f y) (st g y) (sl g y)).2 * y)
      unfold larP
      split
      · rename_i e
        show Ht A (st f y - lar (sl f y) (sl g y) * y)
        unfold lar
        split
        · rw [e]; exact b3
        · exact a3
      · split <;> assumption
    · obtain ⟨_, _, _, c4⟩ := cross_eq hc
      show Ht A ((st f y + sl f y * (z - y)) - (if sl f y < sl g y then sl g y else sl f y) * z)
      split
      · have : (st f y + sl f y * (z - y)) - sl g y * z = st g y - sl g y * y := by grind
        rw [this]
        exact b3
      · have : (st f y + sl f y * (z - y)) - sl f y * z = st f y - sl f y * y := by grind
        rw [this]
        exact a3
  · obtain ⟨y, hyi, hq⟩ := lar_mem hq
    obtain ⟨y0, yX⟩ := hy y hyi
    rcases hq with rfl | ⟨z, hc, rfl⟩
    · exact (vl_ht hf h y0 yX v1 (by omega)).lar (vl_ht hg h' y0 yX v1 (by omega))
    · obtain ⟨_, a2, a3, _⟩ := near_ht hf h y0
      have e : lineAt ⟨y, vl f y, st f y, sl f y⟩ z = lineAt (near f y) z := by
        show st f y + sl f y * (z - y) = _
        rw [line_itc, ← itc_is]
        show _ = st f y - sl f y * y + sl f y * z
        grind
      rw [show (⟨z, lineAt ⟨y, vl f y, st f y, sl f y⟩ z, lineAt ⟨y, vl f y, st f y, sl f y⟩ z, if sl f y < sl g y then sl g y else sl f y⟩ : Nd).v = lineAt ⟨y, vl f y, st f y, sl f y⟩ z from rfl, e]
      exact (line_ht a3 a2 (hz y hyi z hc)).mono v2
/-! ### the highest so far, the highest behind -/
/-- what is asked of nodes for either -/
structure HB (N X S A : Nat) (f : List Nd) : Prop where
  x : ∀ n ∈ f, Ht X n.x
  k : ∀ n ∈ f, Ht S n.k
  a : ∀ n ∈ f, Ht A (itc n)
  v : ∀ n ∈ f, Ht N n.v
  s : ∀ n ∈ f, Ht N n.s
  ln : ∀ n ∈ f, ∀ m ∈ f, Ht N (lineAt n m.x)
theorem CB.hb {N : Nat} (h : CB L X S A V f) (h1 : V ≤ N) (h2 : A + S + X + 1 ≤ N) : HB N X S A f :=
  ⟨h.x, h.k, h.a, fun n hn => (h.v n hn).mono h1, fun n hn => (s_ht (h.a n hn) (h.k n hn) (h.x n hn)).mono h2, fun n hn m hm => (line_ht (h.a n hn) (h.k n hn) (h.x m hm)).mono h2⟩
theorem HB.tail {N : Nat} {n : Nd} {t : List Nd} (h : HB N X S A (n :: t)) : HB N X S A t :=
  ⟨fun m hm => h.x m (List.mem_cons_of_mem _ hm), fun m hm => h.k m (List.mem_cons_of_mem _ hm), fun m hm => h.a m (List.mem_cons_of_mem _ hm), fun m hm => h.v m (List.mem_cons_of_mem _ hm), fun m hm => h.s m (List.mem_cons_of_mem _ hm),
    fun m hm p hp => h.ln m (List.mem_cons_of_mem _ hm) p (List.mem_cons_of_mem _ hp)⟩
theorem meet_ht {N X1 : Nat} {n : Nd} {r : Rat} (ha : Ht A (itc n)) (hk : Ht S n.k) (hr : Ht N r) (h0 : n.k ≠ 0) (h1 : N + A + S + 1 ≤ X1) : Ht X1 (n.x + (r - n.s) / n.k) ∧ r - n.k * (n.x + (r - n.s) / n.k) = itc n := by
  have e : n.x + (r - n.s) / n.k = (r - itc n) / n.k := by
    unfold itc
    grind
  refine ⟨?_, ?_⟩
  · rw [e]
    exact ((hr.sub ha).div hk h0).mono (by omega)
  · rw [e]
    have : n.k * ((r - itc n) / n.k) = r - itc n := by grind
    rw [this]
    grind
theorem hs_cb {N X1 S1 : Nat} (hA : A ≤ N) (hX : X ≤ X1) (hX1 : N + A + S + 1 ≤ X1) (hS : S ≤ S1) (hS1 : 1 ≤ S1) : ∀ {f : List Nd} {h : Rat}, HB N X S A f → Ht N h → CB (2 * f.length) X1 S1 N N (hsN h f)
  | [], h, _, _ => ⟨Nat.le_refl _, fun _ h => (by cases h), fun _ h => (by cases h), fun _ h => (by cases h), fun _ h => (by cases h)⟩
  | n :: t, h, hb, hh => by
    have nx := hb.x n List.mem_cons_self
    have nk := hb.k n List.mem_cons_self
    have na := hb.a n List.mem_cons_self
    have nv := hb.v n List.mem_cons_self
    have ns := hb.s n List.mem_cons_self
    have hst : Ht N (hsStart h n) := (hh.lar nv).lar ns
    have hH : Ht N (hsH h n (t.head?.map (·.x))) := by
      unfold hsH
      split
      · cases ht : t.head?.map (·.x) with
        | none => exact hst
        | some u =>
          obtain ⟨m, hm, rfl⟩ := Option.map_eq_some_iff.mp ht
          exact hst.lar (hb.ln n List.mem_cons_self m (List.mem_cons_of_mem _ (List.mem_of_head? hm)))
      · exact hst
    have rest := hs_cb hA hX hX1 hS hS1 hb.tail hH
    have first : Ht X1 (hsNd h n).x ∧ Ht S1 (hsNd h n).k ∧ Ht N (itc (hsNd h n)) ∧ Ht N (hsNd h n).v := by
      refine ⟨nx.mono hX, ?_, ?_, hh.lar nv⟩
      · show Ht S1 (if hsFollows h n = true then n.k else 0)
        split
        · exact nk.mono hS
        · exact ht_zero.mono hS1
      · show Ht N (hsStart h n - (if hsFollows h n = true then n.k else 0) * n.x)
        split
        · rename_i hf
          have : hsStart h n = n.s := by
            unfold hsFollows at hf
            simp at hf
            exact hf.2
          rw [this]
          exact na.mono hA
        · have : hsStart h n - 0 * n.x = hsStart h n := by grind
          rw [this]
          exact hst
    have mid : ∀ q ∈ hsX h n (t.head?.map (·.x)), Ht X1 q.x ∧ Ht S1 q.k ∧ Ht N (itc q) ∧ Ht N q.v := by
      intro q hq
      unfold hsX at hq
      split at hq
      · rename_i hc
        have hk : 0 < n.k := by
          simp at hc
          exact hc.1
        rw [mem_ite hq]
        obtain ⟨m1, m2⟩ := meet_ht (X1 := X1) na nk hst (by grind) hX1
        refine ⟨m1, nk.mono hS, ?_, hst⟩
        show Ht N (hsStart h n - n.k * (n.x + (hsStart h n - n.s) / n.k))
        rw [m2]
        exact na.mono hA
      · cases hq
    have midl : (hsX h n (t.head?.map (·.x))).length ≤ 1 := by
      unfold hsX
      split
      · exact len_ite
      · exact Nat.zero_le _
    have all : ∀ q ∈ hsN h (n :: t), Ht X1 q.x ∧ Ht S1 q.k ∧ Ht N (itc q) ∧ Ht N q.v := by
      intro q hq
      rw [hs_cons] at hq
      rcases List.mem_cons.mp hq with e | hq
      · rw [e]; exact first
      · rcases List.mem_append.mp hq with hq | hq
        · exact mid q hq
        · exact ⟨rest.x q hq, rest.k q hq, rest.a q hq, rest.v q hq⟩
    refine ⟨?_, fun q hq => (all q hq).1, fun q hq => (all q hq).2.1, fun q hq => (all q hq).2.2.1, fun q hq => (all q hq).2.2.2⟩
    have := rest.len
    rw [hs_cons, List.length_cons, List.length_append, List.length_cons]
    omega
theorem hb_cb {N X1 S1 : Nat} (hA : A ≤ N) (hX : X ≤ X1) (hX1 : N + A + S + 1 ≤ X1) (hS : S ≤ S1) (hS1 : 1 ≤ S1) : ∀ {f : List Nd}, HB N X S A f → CB (2 * f.length) X1 S1 N N (hbN f).1 ∧ ∀ r l, (hbN f).2 = some (r, l) → Ht N r ∧ ∃ m ∈ f, m.x = l
  | [], _ => ⟨⟨Nat.le_refl _, fun _ h => (by cases h), fun _ h => (by cases h), fun _ h => (by cases h), fun _ h => (by cases h)⟩, fun _ _ h => (by cases h)⟩
  | n :: t, hb => by
    have nx := hb.x n List.mem_cons_self
    have nk := hb.k n List.mem_cons_self
    have na := hb.a n List.mem_cons_self
    have nv := hb.v n List.mem_cons_self
    have ns := hb.s n List.mem_cons_self
    obtain ⟨rest, hr⟩ := hb_cb hA hX hX1 hS hS1 hb.tail
    have ln : ∀ r l, (hbN t).2 = some (r, l) → Ht N (lineAt n l) := by
      intro r l e
      obtain ⟨m, hm, rfl⟩ := (hr r l e).2
      exact hb.ln n List.mem_cons_self m (List.mem_cons_of_mem _ hm)
    have flat : ∀ {x v s : Rat}, Ht X x → Ht N v → Ht N s → Ht X1 (⟨x, v, s, 0⟩ : Nd).x ∧ Ht S1 (⟨x, v, s, 0⟩ : Nd).k ∧ Ht N (itc ⟨x, v, s, 0⟩) ∧ Ht N (⟨x, v, s, 0⟩ : Nd).v := by
      intro x v s h1 h2 h3
      refine ⟨h1.mono hX, ht_zero.mono hS1, ?_, h2⟩
      have : itc ⟨x, v, s, 0⟩ = s := by
        unfold itc
        grind
      rw [this]
      exact h3
    have own : ∀ {v : Rat}, Ht N v → Ht X1 (⟨n.x, v, n.s, n.k⟩ : Nd).x ∧ Ht S1 (⟨n.x, v, n.s, n.k⟩ : Nd).k ∧ Ht N (itc ⟨n.x, v, n.s, n.k⟩) ∧ Ht N (⟨n.x, v, n.s, n.k⟩ : Nd).v := fun h1 => ⟨nx.mono hX, nk.mono hS, na.mono hA, h1⟩
    have some_ht : (∀ q ∈ hbSome n (hbN t).2, Ht X1 q.x ∧ Ht S1 q.k ∧ Ht N (itc q) ∧ Ht N q.v) ∧ (hbSome n (hbN t).2).length ≤ 2 ∧ Ht N ((hbSome n (hbN t).2).head?.getD n0).v := by
      cases ho : (hbN t).2 with
      | none =>
        refine ⟨fun q hq => ?_, Nat.le_of_ble_eq_true rfl, nv.lar ns⟩
        rw [List.mem_singleton.mp hq]
        exact own (nv.lar ns)
      | some p =>
        obtain ⟨r, l⟩ := p
        obtain ⟨hr1, _⟩ := hr r l ho
        have hl := ln r l ho
        rw [hb_some]
        by_cases hk : n.k < 0
        · rw [if_pos hk, fall_some]
          by_cases c1 : lineAt n l < r
          · rw [if_pos c1]
            by_cases c2 : r < n.s
            · rw [if_pos c2]
              obtain ⟨m1, m2⟩ := meet_ht (X1 := X1) na nk hr1 (by grind) hX1
              refine ⟨fun q hq => ?_, Nat.le_of_ble_eq_true rfl, nv.lar ns⟩
              rcases List.mem_cons.mp hq with e | hq
              · rw [e]; exact own (nv.lar ns)
              · rw [List.mem_singleton.mp hq]
                refine ⟨m1, ht_zero.mono hS1, ?_, hr1⟩
                have : itc ⟨n.x + (r - n.s) / n.k, r, r, 0⟩ = r := by
                  unfold itc
                  show r - 0 * _ = r
                  rw [Rat.zero_mul]
                  grind
                rw [this]
                exact hr1
            · rw [if_neg c2]
              refine ⟨fun q hq => ?_, Nat.le_of_ble_eq_true rfl, nv.lar hr1⟩
              rw [List.mem_singleton.mp hq]
              exact flat nx (nv.lar hr1) hr1
          · rw [if_neg c1]
            refine ⟨fun q hq => ?_, Nat.le_of_ble_eq_true rfl, nv.lar ns⟩
            rw [List.mem_singleton.mp hq]
            exact own (nv.lar ns)
        · rw [if_neg hk]
          refine ⟨fun q hq => ?_, Nat.le_of_ble_eq_true rfl, nv.lar (hr1.lar hl)⟩
          rw [List.mem_singleton.mp hq]
          exact flat nx (nv.lar (hr1.lar hl)) (hr1.lar hl)
    obtain ⟨s1, s2, s3⟩ := some_ht
    have all : ∀ q ∈ (hbN (n :: t)).1, Ht X1 q.x ∧ Ht S1 q.k ∧ Ht N (itc q) ∧ Ht N q.v := by
      intro q hq
      rw [hb_cons] at hq
      rcases List.mem_append.mp hq with hq | hq
      · exact s1 q hq
      · exact ⟨rest.x q hq, rest.k q hq, rest.a q hq, rest.v q hq⟩
    refine ⟨⟨?_, fun q hq => (all q hq).1, fun q hq => (all q hq).2.1, fun q hq => (all q hq).2.2.1, fun q hq => (all q hq).2.2.2⟩, fun r l e => ?_⟩
    · have := rest.len
      rw [hb_cons, List.length_append, List.length_cons]
      omega
    · rw [hb_cons] at e
      have e := Option.some.inj e
      cases e
      exact ⟨s3, n, List.mem_cons_self, rfl⟩
end
end K66
set_option Elab.async false
set_option linter.all false
set_option autoImplicit false
set_option maxRecDepth 100000
set_option maxHeartbeats 4000000
/-! KMth: what the walk asks of the mathematics, from it. -/
namespace K66
theorem smL_of {n : Nd} {y : Rat} {X S A Y : Nat} (hx : Ht X n.x) (hk : Ht S n.k) (ha : Ht A (itc n)) (hy : Ht Y y) (b : A + S + X + Y + 3 ≤ 4000) : SmL n y :=
  ⟨hx.mono (by omega), hy.mono (by omega), hk.mono (by omega), (s_ht ha hk hx).mono (by omega), (hy.sub hx).mono (by omega), (hk.mul (hy.sub hx)).mono (by omega)⟩
section
variable {L X S A V : Nat} {f : List Nd}
theorem ne_srt (hf : Srt f) : f ≠ [] := by
  rintro rfl
  exact hf
theorem nearOk_of (hf : Srt f) (h : CB L X S A V f) {y : Rat} {Y : Nat} (hy : 0 ≤ y) (hY : Ht Y y) (hL : L ≤ 400) (b : A + S + X + Y + 3 ≤ 4000) : NearOk f y := by
  obtain ⟨h1, h2, h3, h4⟩ := near_ht hf h hy
  obtain ⟨m1, m2⟩ := near_le hf hy
  exact ⟨Nat.le_trans h.len hL, fun n hn => (h.x n hn).mono (by omega), ⟨near f y, m1, Rat.not_lt.mpr m2⟩, smL_of h1 h2 h3 hY b⟩
theorem nearSm_of (hf : Srt f) (h : CB L X S A V f) {y : Rat} {Y : Nat} (hy : 0 ≤ y) (hY : Ht Y y) (hL : L ≤ 400) (hV : V ≤ 4000) (b : A + S + X + Y + 3 ≤ 4000) : NearSm f y :=
  ⟨nearOk_of hf h hy hY hL b, vl_ht hf h hy hY hV (by omega), (st_ht hf h hy hY).mono (by omega), ((near_ht hf h hy).2.1).mono (by omega)⟩
theorem okN_of (hf : Srt f) (h : CB L X S A V f) (hL : L ≤ 1000) (b : A + S + X + X + 3 ≤ 4000) : OkN f :=
  ⟨hf, Nat.le_trans h.len hL, fun m hm n hn => smL_of (h.x m hm) (h.k m hm) (h.a m hm) (h.x n hn) b⟩
theorem scaOk_of {l : Rat} (hl : Ht 4 l) : ScaOk (lineC l) (-1) := by
  have e : ∀ n ∈ lineC l, n = ⟨0, 0, 0, l⟩ := fun n hn => List.mem_singleton.mp hn
  have z : Sm (0 : Rat) := ht_zero.mono (by decide)
  refine ⟨Nat.le_of_ble_eq_true rfl, (show Ht 1 (-1) from ⟨by decide, by decide⟩).mono (by decide), fun n hn => ?_, fun n hn => ?_, fun n hn => ?_, ?_⟩
  · rw [e n hn]; exact z
  · rw [e n hn]; exact z
  · rw [e n hn]; exact hl.mono (by decide)
  · have q : (lineC l).map (scaNd (-1)) = lineC (-l) := sca_line l
    rw [q]
    exact okN_line (hl.neg.mono (by decide))
theorem sumOk_of (hf : Srt f) (h : CB L X S A V f) {m : Rat} (hm : Ht 4 m) (hL : L ≤ 390) (hV : V ≤ 4000) (b : A + S + X + X + 20 ≤ 4000) : SumOk f (lineC m) := by
  have hI : ∀ y ∈ incs f (lineC m), 0 ≤ y ∧ Ht X y := by
    intro y hy
    obtain ⟨n, hn, rfl⟩ := incs_line hf m hy
    exact ⟨srt_nonneg hf hn, h.x n hn⟩
  refine ⟨⟨Nat.le_trans h.len (by omega), Nat.le_of_ble_eq_true rfl, ne_srt hf, ne_srt (line_srt m), fun n hn => (h.x n hn).mono (by omega), fun n hn => ?_⟩, fun y hy => ?_, fun y hy => ?_, ?_⟩
  · rw [List.mem_singleton.mp hn]
    exact ht_zero.mono (by decide)
  · exact nearSm_of hf h (hI y hy).1 (hI y hy).2 (by omega) hV (by omega)
  · exact nearSm_of (line_srt m) (line_cb hm) (hI y hy).1 (hI y hy).2 (by decide) (by decide) (by omega)
  · exact okN_of (sum_ok hf (line_srt m)).1 (sum_cb hf h hm) (by omega) (by omega)
theorem sumOk_sub (hf : Srt f) (h : CB L X S A V f) {m : Rat} (hm : Ht 4 m) (hL : L ≤ 390) (hV : V ≤ 4000) (b : A + S + X + X + 20 ≤ 4000) : SumOk f (scaC (lineC m) (-1)) := by
  rw [sca_line]
  exact sumOk_of hf h hm.neg hL hV b
theorem hs_srt (hf : Srt f) : Srt (hsN (f.head?.getD n0).v f) := by
  cases f with
  | nil => exact absurd hf id
  | cons n t =>
    obtain ⟨h1, h2⟩ := srt_iff.mp hf
    show Srt (hsN n.v (n :: t))
    rw [hs_cons]
    exact srt_iff.mpr ⟨h1, (hs_list h2).1⟩
theorem hb_srt (hf : Srt f) : Srt (hbN f).1 := by
  cases f with
  | nil => exact absurd hf id
  | cons n t =>
    obtain ⟨h1, h2⟩ := srt_iff.mp hf
    obtain ⟨a, s, e1, e2, _, e4, _⟩ := hb_list h2
    rw [e1]
    exact srt_iff.mpr ⟨by rw [e2]; exact h1, e4⟩
theorem hsV_of (h : CB L X S A V f) {N : Nat} (h1 : V ≤ N) (hf : Srt f) : Ht N (f.head?.getD n0).v := by
  cases f with
  | nil => exact absurd hf id
  | cons n t => exact (h.v n List.mem_cons_self).mono h1
theorem hsOk_of (hf : Srt f) (h : CB L X S A V f) {N : Nat} (hL : L ≤ 400) (h1 : V ≤ N) (h2 : A + S + X + 1 ≤ N) (hS : 1 ≤ S) (b1 : 2 * N + X + S + 10 ≤ 4000) (b2 : N + S + (N + A + S + 1) + (N + A + S + 1) + 3 ≤ 4000) :
    HsOk f N X S ∧ CB (2 * L) (N + A + S + 1) S N N (hsC f) := by
  have hb := h.hb h1 h2
  have hc := hs_cb (X1 := N + A + S + 1) (S1 := S) (by omega) (by omega) (Nat.le_refl _) (Nat.le_refl _) hS hb (hsV_of h h1 hf)
  have hc := hc.mono (L' := 2 * L) (Nat.mul_le_mul_left 2 h.len) (Nat.le_refl _) (Nat.le_refl _) (Nat.le_refl _) (Nat.le_refl _)
  refine ⟨⟨b1, ne_srt hf, Nat.le_trans h.len hL, h.x, hb.v, hb.s, h.k, fun n hn m hm => ⟨smL_of (h.x n hn) (h.k n hn) (h.a n hn) (h.x m hm) (by omega), hb.ln n hn m hm⟩, okN_of (hs_srt hf) hc (by omega) b2⟩, hc.thin⟩
theorem hbOk_of (hf : Srt f) (h : CB L X S A V f) {N : Nat} (hL : L ≤ 400) (h1 : V ≤ N) (h2 : A + S + X + 1 ≤ N) (hS : 1 ≤ S) (b1 : 2 * N + X + S + 10 ≤ 4000) (b2 : N + S + (N + A + S + 1) + (N + A + S + 1) + 3 ≤ 4000) :
    HbOk f N X S ∧ CB (2 * L) (N + A + S + 1) S N N (hbC f) := by
  have hb := h.hb h1 h2
  have hc := (hb_cb (X1 := N + A + S + 1) (S1 := S) (by omega) (by omega) (Nat.le_refl _) (Nat.le_refl _) hS hb).1
  have hc := hc.mono (L' := 2 * L) (Nat.mul_le_mul_left 2 h.len) (Nat.le_refl _) (Nat.le_refl _) (Nat.le_refl _) (Nat.le_refl _)
  refine ⟨⟨b1, Nat.le_trans h.len hL, h.x, hb.v, hb.s, h.k, fun n hn m hm => ⟨smL_of (h.x n hn) (h.k n hn) (h.a n hn) (h.x m hm) (by omega), hb.ln n hn m hm⟩, okN_of (hb_srt hf) hc (by omega) b2⟩, hc.thin⟩
theorem larOk_of {g : List Nd} {L' X2 V2 : Nat} (hf : Srt f) (hg : Srt g) (h : CB L X S A V f) (h' : CB L' X S A V g) (hL : L + L' ≤ 400) (hV : V ≤ 4000) (x1 : X ≤ X2) (x2 : 2 * A + 2 * S + 2 ≤ X2) (v1 : V ≤ V2) (v2 : A + S + X2 + 1 ≤ V2)
    (b1 : 2 * A + 4 * S + 2 * X + 10 ≤ 4000) (b2 : A + S + X2 + X2 + 10 ≤ 4000) : LarOk f g ∧ CB (2 * (L + L')) X2 S A V2 (larC f g) := by
  obtain ⟨hc, hI⟩ := lar_cb hf hg h h' x1 x2 v1 v2
  refine ⟨⟨⟨Nat.le_trans h.len (by omega), Nat.le_trans h'.len (by omega), ne_srt hf, ne_srt hg, fun n hn => (h.x n hn).mono (by omega), fun n hn => (h'.x n hn).mono (by omega)⟩, fun y hy => ?_, fun y hy => ?_, fun y hy => ?_, fun y hy z hz => ?_, okN_of (lar_ok hf hg).1 hc (by omega) (by omega)⟩, hc.thin⟩
  · exact nearSm_of hf h (hI y hy).1 (hI y hy).2.1 (by omega) hV (by omega)
  · exact nearSm_of hg h' (hI y hy).1 (hI y hy).2.1 (by omega) hV (by omega)
  · obtain ⟨y0, yX, _⟩ := hI y hy
    have a1 := st_ht hf h y0 yX
    have b1 := st_ht hg h' y0 yX
    have a2 : Ht S (sl f y) := (near_ht hf h y0).2.1
    have b2 : Ht S (sl g y) := (near_ht hg h' y0).2.1
    refine ⟨yX.mono (by omega), a1.mono (by omega), a2.mono (by omega), b1.mono (by omega), b2.mono (by omega), (a1.sub b1).mono (by omega), (b2.sub a2).mono (by omega), ?_⟩
    by_cases h0 : sl g y - sl f y = 0
    · rw [h0, Rat.div_def, Rat.inv_zero, Rat.mul_zero]
      exact ht_zero.mono (by decide)
    · exact ((a1.sub b1).div (b2.sub a2) h0).mono (by omega)
  · obtain ⟨y0, yX, hz2⟩ := hI y hy
    have zX := hz2 z hz
    have a2 : Ht S (sl f y) := (near_ht hf h y0).2.1
    exact ⟨yX.mono (by omega), zX.mono (by omega), a2.mono (by omega), (st_ht hf h y0 yX).mono (by omega), (zX.sub yX).mono (by omega), (a2.mul (zX.sub yX)).mono (by omega)⟩
/-- one level of least curves -/
theorem lb_lvl (hf : Can f) (h : CB L X S A V f) {N : Nat} (hL : L ≤ 90) (n1 : V + X + 5 ≤ N) (n2 : A + S + X + 6 ≤ N) (b1 : 5 * N + 5 * S + 80 ≤ 4000) (b2 : 4 * N + 2 * A + 6 * S + 80 ≤ 4000) {low high : Option Rat} (hr : RtS low high) :
    LbOk f low high ∧ (Hk f high → CB (8 * L + 12) (2 * N + 2 * S + 22) (S + 10) N (3 * N + 3 * S + 33) (loHi f low high)) := by
  have hs := hf.srt
  have hsub : ∀ {l : Rat}, Ht 4 l → CB (L + 1) X (S + 5) A (V + X + 5) (subC f (lineC l)) := fun hl => (sub_cb hs h hl).mono (Nat.le_refl _) (Nat.le_refl _) (by omega) (Nat.le_refl _) (by omega)
  have ssub : ∀ l : Rat, Srt (subC f (lineC l)) := fun l => (subC_ok hs l).1.srt
  have one : ∀ {l : Rat}, Ht 4 l → ScaOk (lineC l) (-1) ∧ SumOk f (scaC (lineC l) (-1)) := fun hl => ⟨scaOk_of hl, sumOk_sub hs h hl (by omega) (by omega) (by omega)⟩
  have two : ∀ {l : Rat} {g : List Nd}, Ht 4 l → Srt g → CB (2 * (L + 1)) (N + A + (S + 5) + 1) (S + 5) N N g → SumOk g (lineC l) ∧ CB (2 * (L + 1) + 1) (N + A + S + 6) (S + 10) N (2 * N + A + S + 11) (sumC g (lineC l)) := by
    intro l g hl hg hc
    refine ⟨sumOk_of hg hc hl (by omega) (by omega) (by omega), (sum_cb hg hc hl).thin.mono (Nat.le_refl _) (by omega) (by omega) (Nat.le_refl _) (by omega)⟩
  -- the low one
  have lo : ∀ {l : Rat}, Ht 4 l → (∃ N' X' S', HsOk (subC f (lineC l)) N' X' S') ∧ SumOk (hsC (subC f (lineC l))) (lineC l) ∧ CB (2 * (L + 1) + 1) (N + A + S + 6) (S + 10) N (2 * N + A + S + 11) (loC f l) := by
    intro l hl
    obtain ⟨q1, q2⟩ := hsOk_of (N := N) (ssub l) (hsub hl) (by omega) (by omega) (by omega) (by omega) (by omega) (by omega)
    obtain ⟨q3, q4⟩ := two hl (hsC_ok (ssub l)).1.srt q2
    exact ⟨⟨_, _, _, q1⟩, q3, q4⟩
  -- the high one
  have hi : ∀ {l : Rat}, Ht 4 l → ¬ l < (f.getLast?.getD n0).k → (∃ N' X' S', HbOk (subC f (lineC l)) N' X' S') ∧ SumOk (hbC (subC f (lineC l))) (lineC l) ∧ CB (2 * (L + 1) + 1) (N + A + S + 6) (S + 10) N (2 * N + A + S + 11) (sumC (hbC (subC f (lineC l))) (lineC l)) := by
    intro l hl hk
    obtain ⟨q1, q2⟩ := hbOk_of (N := N) (ssub l) (hsub hl) (by omega) (by omega) (by omega) (by omega) (by omega) (by omega)
    obtain ⟨q3, q4⟩ := two hl (hbC_ok (ssub l) (far_sub hs hk)).1.srt q2
    exact ⟨⟨_, _, _, q1⟩, q3, q4⟩
  have hic : Hk f high → CB (2 * (L + 1) + 1) (N + A + S + 6) (S + 10) N (2 * N + A + S + 11) (hiC f high) := by
    intro hk
    cases high with
    | none => exact h.mono (by omega) (by omega) (by omega) (by omega) (by omega)
    | some q => exact (hi (hr.hi q rfl) (hk q rfl)).2.2
  have lar : ∀ {l : Rat}, Ht 4 l → Hk f high → LarOk (hiC f high) (loC f l) ∧ CB (8 * L + 12) (2 * N + 2 * S + 22) (S + 10) N (3 * N + 3 * S + 33) (larC (hiC f high) (loC f l)) := by
    intro l hl hk
    obtain ⟨q1, q2⟩ := larOk_of (X2 := 2 * N + 2 * S + 22) (V2 := 3 * N + 3 * S + 33) (hiC_ok hf hk).1.srt (lst_low hs l).1.srt (hic hk) (lo hl).2.2 (by omega) (by omega) (by omega) (by omega) (by omega) (by omega) (by omega) (by omega)
    exact ⟨q1, q2.mono (by omega) (Nat.le_refl _) (Nat.le_refl _) (Nat.le_refl _) (by omega)⟩
  have hlast : (f.getLast?.getD n0) ∈ f := by
    rw [List.getLast?_eq_some_getLast (ne_srt hs)]
    exact List.getLast_mem _
  refine ⟨⟨hr.ok, ne_srt hs, (h.k _ hlast).mono (by omega), fun q hq hk => ?_, fun hk l hl => ?_⟩, fun hk => ?_⟩
  · obtain ⟨a1, a2⟩ := one (hr.hi q hq)
    obtain ⟨a3, a4, _⟩ := hi (hr.hi q hq) hk
    exact ⟨a1, a2, a3, a4⟩
  · obtain ⟨a1, a2⟩ := one (hr.lo l hl)
    obtain ⟨a3, a4, _⟩ := lo (hr.lo l hl)
    exact ⟨a1, a2, a3, a4, (lar (hr.lo l hl) hk).1⟩
  · cases low with
    | none => exact (hic hk).mono (by omega) (by omega) (Nat.le_refl _) (Nat.le_refl _) (by omega)
    | some l => exact (lar (hr.lo l rfl) hk).2
theorem keepOk_of (h : CB L X S A V f) (hL : L ≤ 400) (hV : V ≤ 4000) (b : A + S + X + X + 3 ≤ 4000) {low high : Option Rat} (hr : RtS low high) : KeepOk f low high :=
  ⟨hr.ok, Nat.le_trans h.len hL, fun n hn => (h.v n hn).mono hV, fun n hn => (s_ht (h.a n hn) (h.k n hn) (h.x n hn)).mono (by omega), fun n hn => (h.k n hn).mono (by omega),
    fun n hn m hm => ⟨smL_of (h.x n hn) (h.k n hn) (h.a n hn) (h.x m hm) b, (line_ht (h.a n hn) (h.k n hn) (h.x m hm)).mono (by omega)⟩⟩
end
/-- the law's own curves -/
theorem raw_cb {raw : List Nd} (h : Raw raw) : CB 5 7 3 92 100 raw :=
  ⟨h.len, h.x, h.k, fun n hn => ((h.s n hn).sub ((h.k n hn).mul (h.x n hn))).mono (by decide), h.v⟩
theorem RtS.lowOnly {low high : Option Rat} (h : RtS low high) : RtS low none := ⟨h.lo, fun _ z => (by cases z), fun _ _ _ z => (by cases z)⟩
theorem RtS.highOnly {low high : Option Rat} (h : RtS low high) : RtS none high := ⟨fun _ z => (by cases z), h.hi, fun _ _ z => (by cases z)⟩
theorem RtS.rtLe {low high : Option Rat} (h : RtS low high) : RtLe low high := h.le
theorem hk_of_lb {f g : List Nd} {low high : Option Rat} (h : lbC f low high = some g) : Hk f high := by
  intro q hq hlt
  rw [hq, lbC_yes hlt] at h
  cases h
theorem leadOk_of {f : List Nd} (hf : Srt f) (h : CB 5 7 3 92 100 f) {low high : Option Rat} (hr : RtS low high) {y : Rat} (hy : 0 ≤ y) (hy6 : Ht 6 y) {p : Rat × Sd} (hp : p ∈ places f y) : LeadOk f low high y p := by
  obtain ⟨x, sd⟩ := p
  obtain ⟨z, hz, hp⟩ := List.mem_flatMap.mp hp
  have hz0 : 0 ≤ z ∧ Ht 7 z := by
    rcases List.mem_append.mp hz with q | q
    · obtain ⟨m, hm, rfl⟩ := List.mem_map.mp q
      exact ⟨srt_nonneg hf hm, h.x m hm⟩
    · rw [List.mem_singleton.mp q]
      exact ⟨hy, hy6.mono (by decide)⟩
  have hx : x = z ∧ (sd = .before → 0 < z) := by
    unfold placesOf at hp
    by_cases h0 : 0 < z
    · rw [if_pos h0] at hp
      simp at hp
      rcases hp with ⟨rfl, rfl⟩ | ⟨rfl, rfl⟩ | ⟨rfl, rfl⟩
      · exact ⟨rfl, fun h => by cases h⟩
      · exact ⟨rfl, fun h => by cases h⟩
      · exact ⟨rfl, fun _ => h0⟩
    · rw [if_neg h0] at hp
      simp at hp
      rcases hp with ⟨rfl, rfl⟩ | ⟨rfl, rfl⟩
      · exact ⟨rfl, fun h => by cases h⟩
      · exact ⟨rfl, fun h => by cases h⟩
  obtain ⟨rfl, hxb⟩ := hx
  obtain ⟨x0, x7⟩ := hz0
  have bef : sd = .before → (∃ n ∈ f, n.x < x) ∧ befN f x ∈ f := by
    intro e
    have hpos := hxb e
    cases f with
    | nil => exact absurd hf id
    | cons n t =>
      obtain ⟨h1, h2⟩ := srt_iff.mp hf
      refine ⟨⟨n, List.mem_cons_self, by rw [h1]; exact hpos⟩, ?_⟩
      unfold befN
      rw [bef_ev h2 (by rw [h1]; exact hpos)]
      exact evB_mem
  have dd : Ht 14 (y - x) := (hy6.sub x7).mono (by decide)
  have dd2 : Ht 14 (x - y) := (x7.sub hy6).mono (by decide)
  refine ⟨⟨nearOk_of hf h x0 x7 (by decide) (by decide), fun e => ⟨(bef e).1, ?_⟩⟩, x7.mono (by decide), ?_, dd.mono (by decide), dd2.mono (by decide), fun l hl => ⟨(hr.lo l hl).mono (by decide), ((hr.lo l hl).mul dd).mono (by decide)⟩, fun l hl => ⟨(hr.hi l hl).mono (by decide), ((hr.hi l hl).mul dd2).mono (by decide)⟩⟩
  · have hm := (bef e).2
    exact smL_of (h.x _ hm) (h.k _ hm) (h.a _ hm) x7 (by decide)
  · cases sd with
    | at_ => exact vl_ht hf h x0 x7 (by decide) (by decide)
    | after => exact (st_ht hf h x0 x7).mono (by decide)
    | before =>
      have hm := (bef rfl).2
      exact (line_ht (h.a _ hm) (h.k _ hm) x7).mono (by decide)
theorem rtS_none : RtS none none := ⟨fun _ z => (by cases z), fun _ z => (by cases z), fun _ _ z => (by cases z)⟩
theorem rtS_zero : RtS (some (ri 0)) none := ⟨fun l z => (by cases z; exact ri_ht (by decide) (by decide)), fun _ z => (by cases z), fun _ _ _ z => (by cases z)⟩
theorem ri_zero : ri 0 = 0 := by decide
theorem rtS_both {h : Rat} (hh : Ht 4 h) : RtS (some h) (some h) := ⟨fun l z => (by cases z; exact hh), fun l z => (by cases z; exact hh), fun l q z1 z2 => (by cases z1; cases z2; exact Rat.lt_irrefl)⟩
theorem mth_is {f g : List Nd} {low high : Option Rat} {y : Rat} (hf : Can f) (hg : Can g) (cf : CB 5 7 3 92 100 f) (cg : CB 5 7 3 92 100 g) (hr : RtS low high) (hy : 0 ≤ y) (hy6 : Ht 6 y) : IsOk f g low high y := by
  have lvl0 : ∀ {lo hi : Option Rat}, RtS lo hi → LbOk f lo hi ∧ (Hk f hi → CB 52 252 13 112 378 (loHi f lo hi)) := fun hr => by
    obtain ⟨q1, q2⟩ := lb_lvl (N := 112) hf cf (by decide) (by decide) (by decide) (by decide) (by decide) hr
    exact ⟨q1, fun hk => (q2 hk).mono (by decide) (by decide) (by decide) (by decide) (by decide)⟩
  have lvl1 : ∀ {p : List Nd} {lo hi : Option Rat}, Can p → CB 52 252 13 112 378 p → RtS lo hi → LbOk p lo hi := fun hp cp hr => (lb_lvl (N := 635) hp cp (by decide) (by decide) (by decide) (by decide) (by decide) hr).1
  -- the least curve, where there is one
  have fnd : ∀ {lo hi : Option Rat} {p : List Nd}, lbC f lo hi = some p → Hk f hi ∧ p = loHi f lo hi := fun h => by
    have hk := hk_of_lb h
    rw [lbC_is hk] at h
    exact ⟨hk, (Option.some.inj h).symm⟩
  have cf' : CB 52 252 13 112 378 f := cf.mono (by decide) (by decide) (by decide) (by decide) (by decide)
  have cp : ∀ {lo hi : Option Rat}, RtS lo hi → Hk f hi → Can (loHi f lo hi) ∧ CB 52 252 13 112 378 (loHi f lo hi) := fun hr hk => ⟨(loHi_ok hf hr.rtLe hk).1, (lvl0 hr).2 hk⟩
  have larP : ∀ {p q : List Nd}, Can p → Can q → CB 52 252 13 112 378 p → CB 52 252 13 112 378 q → LarOk p q := fun hp hq c1 c2 => (larOk_of (X2 := 252) (V2 := 378) hp.srt hq.srt c1 c2 (by decide) (by decide) (by decide) (by decide) (by decide) (by decide) (by decide) (by decide)).1
  obtain ⟨gf1, gf2⟩ := larOk_of (X2 := 192) (V2 := 288) hg.srt hf.srt cg cf (by decide) (by decide) (by decide) (by decide) (by decide) (by decide) (by decide) (by decide)
  have cgf : Can (larC g f) := (larC_ok hg.srt hf.srt).1
  obtain ⟨m1, m2⟩ := lb_lvl (N := 485) cgf gf2 (by decide) (by decide) (by decide) (by decide) (by decide) hr
  refine ⟨⟨(lvl0 hr).1, Nat.le_trans cf.len (by decide), fun n hn => (cf.x n hn).mono (by decide), hy6.mono (by decide), hy, fun p hp => ?_⟩, (lvl0 rtS_none).1, lbC_is (hk_none f), (lvl0 rtS_zero).1, ?_, ⟨112, 7, 3, (hsOk_of hf.srt cf (by decide) (by decide) (by decide) (by decide) (by decide) (by decide)).1⟩, fun hn => ?_, fun p hp => ?_, fun p h hp hh => ?_, gf1, m1, fun p m hp hm => ?_⟩
  · obtain ⟨hk, rfl⟩ := fnd hp
    obtain ⟨c1, c2⟩ := cp hr hk
    exact ⟨nearOk_of c1.srt c2 hy hy6 (by decide) (by decide), fun q hq => leadOk_of hf.srt cf hr hy hy6 hq, reach_some hf hr.rtLe hk hy⟩
  · rw [ri_zero, lbC_is (hk_none f), is_high hf]
  · obtain ⟨h, rfl, hlt⟩ := lbC_no hn
    exact ⟨⟨h, rfl⟩, (lvl0 hr.highOnly).1, lbC_yes hlt⟩
  · obtain ⟨hk, rfl⟩ := fnd hp
    obtain ⟨c1, c2⟩ := cp hr hk
    obtain ⟨a1, a2⟩ := cp hr.lowOnly (hk_none f)
    obtain ⟨b1, b2⟩ := cp hr.highOnly hk
    obtain ⟨s1, s2⟩ := fit_self hf hr.rtLe hk
    obtain ⟨o1, o2⟩ := fit_one hf hr.rtLe hk
    refine ⟨keepOk_of c2 (by decide) (by decide) (by decide) hr, fit_keeps hf hr.rtLe hk, larP c1 hf c2 cf', fit_lar hf hr.rtLe hk, lvl1 c1 c2 hr, ?_, keepOk_of cf (by decide) (by decide) (by decide) hr, fit_dec hf hr.rtLe hk, (lvl0 hr.lowOnly).1, (lvl0 hr.highOnly).1,
      loHi f low none, loHi f none high, lbC_is (hk_none f), lbC_is hk, larP a1 b1 a2 b2, fit_max hf hr.rtLe hk, lvl1 a1 a2 hr.highOnly, ?_, lvl1 b1 b2 hr.lowOnly, ?_⟩
    · rw [lbC_is s1, s2]
    · rw [lbC_is o1, o2]
    · rw [lbC_is (hk_none _), fit_other hf hr.rtLe hk]
  · subst hh
    obtain ⟨hk, rfl⟩ := fnd hp
    obtain ⟨n, n1, n2⟩ := is_line hf hk
    exact ⟨(lvl0 (rtS_both (hr.hi h rfl))).1, n, by rw [lbC_is hk, n1], n2⟩
  · obtain ⟨hk, rfl⟩ := fnd hp
    have hk2 := hk_of_lb hm
    rw [lbC_is hk2] at hm
    obtain rfl := Option.some.inj hm
    obtain ⟨c1, c2⟩ := cp hr hk
    have p1 := (loHi_ok cgf hr.rtLe hk2).1
    have p2 := m2 hk2
    refine ⟨(larOk_of (X2 := 998) (V2 := 1497) p1.srt c1.srt p2 (c2.mono (Nat.le_refl _) (by decide) (by decide) (by decide) (by decide)) (by decide) (by decide) (by decide) (by decide) (by decide) (by decide) (by decide) (by decide)).1, is_more hf hg hr.rtLe hk hk2⟩
theorem mth : Mth := by
  refine ⟨fun raw h => okN_of (can_mk h.srt).srt (raw_cb h).thin (by decide) (by decide), fun raw raw2 low high y h1 h2 hr hy hy6 => ?_⟩
  exact mth_is (can_mk (can_mk h1.srt).srt) (can_mk (can_mk h2.srt).srt) (raw_cb h1).thin.thin (raw_cb h2).thin.thin hr hy hy6
end K66
set_option Elab.async false
set_option linter.all false
set_option autoImplicit false
set_option maxRecDepth 100000
set_option maxHeartbeats 0
/-! KEnd: what the top has written; the row's theorem. -/
namespace K66
open PySem PySem.Spec PyProof.Rows L2
theorem num_of {K : Fg} {a : Addr} {od : Option Addr} {k1 k2 : Tok} {n : Nat} {sl : Array (Option Value)} (l : K.lookup a = some ⟨.type "tuple", od, .seq #[.int 0 k1, .int 1 k2] n, sl⟩) (H : Hp) : Fp K H (.ref a) (numD 0) :=
  .tup (xs := [.int 0, .int 1]) (.inr ⟨_, _, n, l, rfl, rfl, (by show 2 ≤ sizeLine; decide), .cons ⟨_, rfl⟩ (.cons ⟨_, rfl⟩ .nil)⟩) (.cons (.int _) (.cons (.int _) .nil))
theorem all_mk {l : PySem.W.OpenLaw} {w : World} {K : PySem.W.Frag} {h : Heap} {mg : Str → Option Value} {fa C adZ adT adU : Addr} (M : Mth) (X : K.In h) (G : h.Ns mainGlobals mg) (hfa : mg "law" = some (.ref fa))
    {odZ odT odU : Option Addr} {tkZ tkZ2 tkT tkT2 tkU tkU2 : Tok} {nZ nT nU : Nat} {slZ slT slU : Array (Option Value)}
    {f0 : Addr} {od0 an0 : Option Addr} {sl0 : Array (Option Value)} {oc0 kV0 dc0 pm0 cd0 ct0 : Value}
    {f1 : Addr} {od1 an1 : Option Addr} {sl1 : Array (Option Value)} {oc1 kV1 dc1 pm1 cd1 ct1 : Value}
    {f2 : Addr} {od2 an2 : Option Addr} {sl2 : Array (Option Value)} {oc2 kV2 dc2 pm2 cd2 ct2 : Value}
    {f3 : Addr} {od3 an3 : Option Addr} {sl3 : Array (Option Value)} {oc3 kV3 dc3 pm3 cd3 ct3 : Value}
    {f4 : Addr} {od4 an4 : Option Addr} {sl4 : Array (Option Value)} {oc4 kV4 dc4 pm4 cd4 ct4 : Value}
    {f5 : Addr} {od5 an5 : Option Addr} {sl5 : Array (Option Value)} {oc5 kV5 dc5 pm5 cd5 ct5 : Value}
    {f6 : Addr} {od6 an6 : Option Addr} {sl6 : Array (Option Value)} {oc6 kV6 dc6 pm6 cd6 ct6 : Value}
    {f7 : Addr} {od7 an7 : Option Addr} {sl7 : Array (Option Value)} {oc7 kV7 dc7 pm7 cd7 ct7 : Value}
    {f8 : Addr} {od8 an8 : Option Addr} {sl8 : Array (Option Value)} {oc8 kV8 dc8 pm8 cd8 ct8 : Value}
    {f9 : Addr} {od9 an9 : Option Addr} {sl9 : Array (Option Value)} {oc9 kV9 dc9 pm9 cd9 ct9 : Value}
    {f10 : Addr} {od10 an10 : Option Addr} {sl10 : Array (Option Value)} {oc10 kV10 dc10 pm10 cd10 ct10 : Value}
    {f11 : Addr} {od11 an11 : Option Addr} {sl11 : Array (Option Value)} {oc11 kV11 dc11 pm11 cd11 ct11 : Value}
    {f12 : Addr} {od12 an12 : Option Addr} {sl12 : Array (Option Value)} {oc12 kV12 dc12 pm12 cd12 ct12 : Value}
    {f13 : Addr} {od13 an13 : Option Addr} {sl13 : Array (Option Value)} {oc13 kV13 dc13 pm13 cd13 ct13 : Value}
    {f14 : Addr} {od14 an14 : Option Addr} {sl14 : Array (Option Value)} {oc14 kV14 dc14 pm14 cd14 ct14 : Value}
    {f15 : Addr} {od15 an15 : Option Addr} {sl15 : Array (Option Value)} {oc15 kV15 dc15 pm15 cd15 ct15 : Value}
    {f16 : Addr} {od16 an16 : Option Addr} {sl16 : Array (Option Value)} {oc16 kV16 dc16 pm16 cd16 ct16 : Value}
    {f17 : Addr} {od17 an17 : Option Addr} {sl17 : Array (Option Value)} {oc17 kV17 dc17 pm17 cd17 ct17 : Value}
    {f18 : Addr} {od18 an18 : Option Addr} {sl18 : Array (Option Value)} {oc18 kV18 dc18 pm18 cd18 ct18 : Value}
    {f19 : Addr} {od19 an19 : Option Addr} {sl19 : Array (Option Value)} {oc19 kV19 dc19 pm19 cd19 ct19 : Value}
    {f20 : Addr} {od20 an20 : Option Addr} {sl20 : Array (Option Value)} {oc20 kV20 dc20 pm20 cd20 ct20 : Value}
    {f21 : Addr} {od21 an21 : Option Addr} {sl21 : Array (Option Value)} {oc21 kV21 dc21 pm21 cd21 ct21 : Value}
    {f22 : Addr} {od22 an22 : Option Addr} {sl22 : Array (Option Value)} {oc22 kV22 dc22 pm22 cd22 ct22 : Value}
    {f23 : Addr} {od23 an23 : Option Addr} {sl23 : Array (Option Value)} {oc23 kV23 dc23 pm23 cd23 ct23 : Value}
    {f24 : Addr} {od24 an24 : Option Addr} {sl24 : Array (Option Value)} {oc24 kV24 dc24 pm24 cd24 ct24 : Value}
    {f25 : Addr} {od25 an25 : Option Addr} {sl25 : Array (Option Value)} {oc25 kV25 dc25 pm25 cd25 ct25 : Value}
    {f26 : Addr} {od26 an26 : Option Addr} {sl26 : Array (Option Value)} {oc26 kV26 dc26 pm26 cd26 ct26 : Value}
    {f27 : Addr} {od27 an27 : Option Addr} {sl27 : Array (Option Value)} {oc27 kV27 dc27 pm27 cd27 ct27 : Value}
    {f28 : Addr} {od28 an28 : Option Addr} {sl28 : Array (Option Value)} {oc28 kV28 dc28 pm28 cd28 ct28 : Value}
    {f29 : Addr} {od29 an29 : Option Addr} {sl29 : Array (Option Value)} {oc29 kV29 dc29 pm29 cd29 ct29 : Value}
    {f30 : Addr} {od30 an30 : Option Addr} {sl30 : Array (Option Value)} {oc30 kV30 dc30 pm30 cd30 ct30 : Value}
    {f31 : Addr} {od31 an31 : Option Addr} {sl31 : Array (Option Value)} {oc31 kV31 dc31 pm31 cd31 ct31 : Value}
    {f32 : Addr} {od32 an32 : Option Addr} {sl32 : Array (Option Value)} {oc32 kV32 dc32 pm32 cd32 ct32 : Value}
    {f33 : Addr} {od33 an33 : Option Addr} {sl33 : Array (Option Value)} {oc33 kV33 dc33 pm33 cd33 ct33 : Value}
    {f34 : Addr} {od34 an34 : Option Addr} {sl34 : Array (Option Value)} {oc34 kV34 dc34 pm34 cd34 ct34 : Value}
    {f35 : Addr} {od35 an35 : Option Addr} {sl35 : Array (Option Value)} {oc35 kV35 dc35 pm35 cd35 ct35 : Value}
    {f36 : Addr} {od36 an36 : Option Addr} {sl36 : Array (Option Value)} {oc36 kV36 dc36 pm36 cd36 ct36 : Value}
    {f37 : Addr} {od37 an37 : Option Addr} {sl37 : Array (Option Value)} {oc37 kV37 dc37 pm37 cd37 ct37 : Value}
    {f38 : Addr} {od38 an38 : Option Addr} {sl38 : Array (Option Value)} {oc38 kV38 dc38 pm38 cd38 ct38 : Value}
    {f39 : Addr} {od39 an39 : Option Addr} {sl39 : Array (Option Value)} {oc39 kV39 dc39 pm39 cd39 ct39 : Value}
    {f40 : Addr} {od40 an40 : Option Addr} {sl40 : Array (Option Value)} {oc40 kV40 dc40 pm40 cd40 ct40 : Value}
    {f41 : Addr} {od41 an41 : Option Addr} {sl41 : Array (Option Value)} {oc41 kV41 dc41 pm41 cd41 ct41 : Value}
    {f42 : Addr} {od42 an42 : Option Addr} {sl42 : Array (Option Value)} {oc42 kV42 dc42 pm42 cd42 ct42 : Value}
    {f43 : Addr} {od43 an43 : Option Addr} {sl43 : Array (Option Value)} {oc43 kV43 dc43 pm43 cd43 ct43 : Value}
    {f44 : Addr} {od44 an44 : Option Addr} {sl44 : Array (Option Value)} {oc44 kV44 dc44 pm44 cd44 ct44 : Value}
    {f45 : Addr} {od45 an45 : Option Addr} {sl45 : Array (Option Value)} {oc45 kV45 dc45 pm45 cd45 ct45 : Value}
    {f46 : Addr} {od46 an46 : Option Addr} {sl46 : Array (Option Value)} {oc46 kV46 dc46 pm46 cd46 ct46 : Value}
    {f47 : Addr} {od47 an47 : Option Addr} {sl47 : Array (Option Value)} {oc47 kV47 dc47 pm47 cd47 ct47 : Value}
    {f48 : Addr} {od48 an48 : Option Addr} {sl48 : Array (Option Value)} {oc48 kV48 dc48 pm48 cd48 ct48 : Value}
    {f49 : Addr} {od49 an49 : Option Addr} {sl49 : Array (Option Value)} {oc49 kV49 dc49 pm49 cd49 ct49 : Value}
    {f50 : Addr} {od50 an50 : Option Addr} {sl50 : Array (Option Value)} {oc50 kV50 dc50 pm50 cd50 ct50 : Value}
    {f51 : Addr} {od51 an51 : Option Addr} {sl51 : Array (Option Value)} {oc51 kV51 dc51 pm51 cd51 ct51 : Value}
    {f52 : Addr} {od52 an52 : Option Addr} {sl52 : Array (Option Value)} {oc52 kV52 dc52 pm52 cd52 ct52 : Value}
    {f53 : Addr} {od53 an53 : Option Addr} {sl53 : Array (Option Value)} {oc53 kV53 dc53 pm53 cd53 ct53 : Value}
    {f54 : Addr} {od54 an54 : Option Addr} {sl54 : Array (Option Value)} {oc54 kV54 dc54 pm54 cd54 ct54 : Value}
    {f55 : Addr} {od55 an55 : Option Addr} {sl55 : Array (Option Value)} {oc55 kV55 dc55 pm55 cd55 ct55 : Value}
    {f56 : Addr} {od56 an56 : Option Addr} {sl56 : Array (Option Value)} {oc56 kV56 dc56 pm56 cd56 ct56 : Value}
    {f57 : Addr} {od57 an57 : Option Addr} {sl57 : Array (Option Value)} {oc57 kV57 dc57 pm57 cd57 ct57 : Value}
    {f58 : Addr} {od58 an58 : Option Addr} {sl58 : Array (Option Value)} {oc58 kV58 dc58 pm58 cd58 ct58 : Value}
    {f59 : Addr} {od59 an59 : Option Addr} {sl59 : Array (Option Value)} {oc59 kV59 dc59 pm59 cd59 ct59 : Value}
    {f60 : Addr} {od60 an60 : Option Addr} {sl60 : Array (Option Value)} {oc60 kV60 dc60 pm60 cd60 ct60 : Value}
    {f61 : Addr} {od61 an61 : Option Addr} {sl61 : Array (Option Value)} {oc61 kV61 dc61 pm61 cd61 ct61 : Value}
    (aC : PySem.W.nsIn K mainGlobals "Curve" = some (some (.ref C)))
    (pg : PySem.W.plainGet K C Str.empty = true)
    (hd : PySem.W.hasDictIn K C = true)
    (po : PySem.W.plainOver K C = true)
    (sa : PySem.W.findIn K (.ref C) "__setattr__" = some (some (.builtin "object.__setattr__")))
    (mk : PySem.W.makesIn K C = true)
    (kc : PySem.W.keepIn K (.ref C) = true)
    (nN : PySem.W.findIn K (.ref C) "nodes" = some none)
    (sf : PySem.W.selfFirst K C = true)
    (ca : PySem.W.findIn K (.ref C) "__class__" = some (some (.builtin "object.__class__")))
    (cn : PySem.W.specialIn K (.builtin "object.__class__") "__get__" = some (some (.builtin "getset_descriptor.__get__")))
    (ct : PySem.W.takesIn K (.builtin "object.__class__") = some true)
    (cm : PySem.W.mroIn K C (.type "object") = some true)
    (ne : PySem.W.findIn K (.ref C) "__ne__" = some (some (.builtin "object.__ne__")))
    (aZ : PySem.W.nsIn K mainGlobals "ZERO" = some (some (.ref adZ)))
    (lZ : K.lookup adZ = some ⟨.type "tuple", odZ, .seq #[.int 0 tkZ, .int 1 tkZ2] nZ, slZ⟩)
    (aT : PySem.W.nsIn K mainGlobals "TOP" = some (some (.ref adT)))
    (lT : K.lookup adT = some ⟨.type "tuple", odT, .seq #[.int 1 tkT, .ref adU, .int 0 tkT2] nT, slT⟩)
    (lU : K.lookup adU = some ⟨.type "tuple", odU, .seq #[.int 0 tkU, .int 1 tkU2] nU, slU⟩)
    (z_abs : PySem.W.nsIn K mainGlobals "abs" = some none)
    (z_len : PySem.W.nsIn K mainGlobals "len" = some none)
    (z_isinstance : PySem.W.nsIn K mainGlobals "isinstance" = some none)
    (z_int : PySem.W.nsIn K mainGlobals "int" = some none)
    (z_bool : PySem.W.nsIn K mainGlobals "bool" = some none)
    (z_tuple : PySem.W.nsIn K mainGlobals "tuple" = some none)
    (z_list : PySem.W.nsIn K mainGlobals "list" = some none)
    (z_all : PySem.W.nsIn K mainGlobals "all" = some none)
    (z_enumerate : PySem.W.nsIn K mainGlobals "enumerate" = some none)
    (z_zip : PySem.W.nsIn K mainGlobals "zip" = some none)
    (z_range : PySem.W.nsIn K mainGlobals "range" = some none)
    (z_max : PySem.W.nsIn K mainGlobals "max" = some none)
    (z_min : PySem.W.nsIn K mainGlobals "min" = some none)
    (a0 : PySem.W.nsIn K mainGlobals "common_divisor" = some (some (.ref f0)))
    (l0 : K.lookup f0 = some ⟨oc0, od0, .func (PySem.W.fnOf "common_divisor" "common_divisor" (defArgs t_common_divisor) (defBody t_common_divisor) (defScope t_common_divisor) .none kV0 dc0 pm0 an0 cd0 ct0), sl0⟩)
    (c0 : PySem.W.codeIn K cd0 "common_divisor" = true)
    (k0 : PySem.W.keepIn K (.ref f0) = true)
    (a1 : PySem.W.nsIn K mainGlobals "exact" = some (some (.ref f1)))
    (l1 : K.lookup f1 = some ⟨oc1, od1, .func (PySem.W.fnOf "exact" "exact" (defArgs t_exact) (defBody t_exact) (defScope t_exact) .none kV1 dc1 pm1 an1 cd1 ct1), sl1⟩)
    (c1 : PySem.W.codeIn K cd1 "exact" = true)
    (k1 : PySem.W.keepIn K (.ref f1) = true)
    (a2 : PySem.W.nsIn K mainGlobals "is_integer" = some (some (.ref f2)))
    (l2 : K.lookup f2 = some ⟨oc2, od2, .func (PySem.W.fnOf "is_integer" "is_integer" (defArgs t_is_integer) (defBody t_is_integer) (defScope t_is_integer) .none kV2 dc2 pm2 an2 cd2 ct2), sl2⟩)
    (c2 : PySem.W.codeIn K cd2 "is_integer" = true)
    (k2 : PySem.W.keepIn K (.ref f2) = true)
    (a3 : PySem.W.nsIn K mainGlobals "is_number" = some (some (.ref f3)))
    (l3 : K.lookup f3 = some ⟨oc3, od3, .func (PySem.W.fnOf "is_number" "is_number" (defArgs t_is_number) (defBody t_is_number) (defScope t_is_number) .none kV3 dc3 pm3 an3 cd3 ct3), sl3⟩)
    (c3 : PySem.W.codeIn K cd3 "is_number" = true)
    (k3 : PySem.W.keepIn K (.ref f3) = true)
    (a4 : PySem.W.nsIn K mainGlobals "plus" = some (some (.ref f4)))
    (l4 : K.lookup f4 = some ⟨oc4, od4, .func (PySem.W.fnOf "plus" "plus" (defArgs t_plus) (defBody t_plus) (defScope t_plus) .none kV4 dc4 pm4 an4 cd4 ct4), sl4⟩)
    (c4 : PySem.W.codeIn K cd4 "plus" = true)
    (k4 : PySem.W.keepIn K (.ref f4) = true)
    (a5 : PySem.W.nsIn K mainGlobals "negative" = some (some (.ref f5)))
    (l5 : K.lookup f5 = some ⟨oc5, od5, .func (PySem.W.fnOf "negative" "negative" (defArgs t_negative) (defBody t_negative) (defScope t_negative) .none kV5 dc5 pm5 an5 cd5 ct5), sl5⟩)
    (c5 : PySem.W.codeIn K cd5 "negative" = true)
    (k5 : PySem.W.keepIn K (.ref f5) = true)
    (a6 : PySem.W.nsIn K mainGlobals "minus" = some (some (.ref f6)))
    (l6 : K.lookup f6 = some ⟨oc6, od6, .func (PySem.W.fnOf "minus" "minus" (defArgs t_minus) (defBody t_minus) (defScope t_minus) .none kV6 dc6 pm6 an6 cd6 ct6), sl6⟩)
    (c6 : PySem.W.codeIn K cd6 "minus" = true)
    (k6 : PySem.W.keepIn K (.ref f6) = true)
    (a7 : PySem.W.nsIn K mainGlobals "product" = some (some (.ref f7)))
    (l7 : K.lookup f7 = some ⟨oc7, od7, .func (PySem.W.fnOf "product" "product" (defArgs t_product) (defBody t_product) (defScope t_product) .none kV7 dc7 pm7 an7 cd7 ct7), sl7⟩)
    (c7 : PySem.W.codeIn K cd7 "product" = true)
    (k7 : PySem.W.keepIn K (.ref f7) = true)
    (a8 : PySem.W.nsIn K mainGlobals "quotient" = some (some (.ref f8)))
    (l8 : K.lookup f8 = some ⟨oc8, od8, .func (PySem.W.fnOf "quotient" "quotient" (defArgs t_quotient) (defBody t_quotient) (defScope t_quotient) .none kV8 dc8 pm8 an8 cd8 ct8), sl8⟩)
    (c8 : PySem.W.codeIn K cd8 "quotient" = true)
    (k8 : PySem.W.keepIn K (.ref f8) = true)
    (a9 : PySem.W.nsIn K mainGlobals "is_less" = some (some (.ref f9)))
    (l9 : K.lookup f9 = some ⟨oc9, od9, .func (PySem.W.fnOf "is_less" "is_less" (defArgs t_is_less) (defBody t_is_less) (defScope t_is_less) .none kV9 dc9 pm9 an9 cd9 ct9), sl9⟩)
    (c9 : PySem.W.codeIn K cd9 "is_less" = true)
    (k9 : PySem.W.keepIn K (.ref f9) = true)
    (a10 : PySem.W.nsIn K mainGlobals "larger_of" = some (some (.ref f10)))
    (l10 : K.lookup f10 = some ⟨oc10, od10, .func (PySem.W.fnOf "larger_of" "larger_of" (defArgs t_larger_of) (defBody t_larger_of) (defScope t_larger_of) .none kV10 dc10 pm10 an10 cd10 ct10), sl10⟩)
    (c10 : PySem.W.codeIn K cd10 "larger_of" = true)
    (k10 : PySem.W.keepIn K (.ref f10) = true)
    (a11 : PySem.W.nsIn K mainGlobals "below" = some (some (.ref f11)))
    (l11 : K.lookup f11 = some ⟨oc11, od11, .func (PySem.W.fnOf "below" "below" (defArgs t_below) (defBody t_below) (defScope t_below) .none kV11 dc11 pm11 an11 cd11 ct11), sl11⟩)
    (c11 : PySem.W.codeIn K cd11 "below" = true)
    (k11 : PySem.W.keepIn K (.ref f11) = true)
    (a12 : PySem.W.nsIn K mainGlobals "above" = some (some (.ref f12)))
    (l12 : K.lookup f12 = some ⟨oc12, od12, .func (PySem.W.fnOf "above" "above" (defArgs t_above) (defBody t_above) (defScope t_above) .none kV12 dc12 pm12 an12 cd12 ct12), sl12⟩)
    (c12 : PySem.W.codeIn K cd12 "above" = true)
    (k12 : PySem.W.keepIn K (.ref f12) = true)
    (a13 : PySem.W.nsIn K mainGlobals "comes_before" = some (some (.ref f13)))
    (l13 : K.lookup f13 = some ⟨oc13, od13, .func (PySem.W.fnOf "comes_before" "comes_before" (defArgs t_comes_before) (defBody t_comes_before) (defScope t_comes_before) .none kV13 dc13 pm13 an13 cd13 ct13), sl13⟩)
    (c13 : PySem.W.codeIn K cd13 "comes_before" = true)
    (k13 : PySem.W.keepIn K (.ref f13) = true)
    (a14 : PySem.W.nsIn K mainGlobals "check_income" = some (some (.ref f14)))
    (l14 : K.lookup f14 = some ⟨oc14, od14, .func (PySem.W.fnOf "check_income" "check_income" (defArgs t_check_income) (defBody t_check_income) (defScope t_check_income) .none kV14 dc14 pm14 an14 cd14 ct14), sl14⟩)
    (c14 : PySem.W.codeIn K cd14 "check_income" = true)
    (k14 : PySem.W.keepIn K (.ref f14) = true)
    (a15 : PySem.W.nsIn K mainGlobals "are_nodes" = some (some (.ref f15)))
    (l15 : K.lookup f15 = some ⟨oc15, od15, .func (PySem.W.fnOf "are_nodes" "are_nodes" (defArgs t_are_nodes) (defBody t_are_nodes) (defScope t_are_nodes) .none kV15 dc15 pm15 an15 cd15 ct15), sl15⟩)
    (c15 : PySem.W.codeIn K cd15 "are_nodes" = true)
    (k15 : PySem.W.keepIn K (.ref f15) = true)
    (a16 : PySem.W.nsIn K mainGlobals "reached_by" = some (some (.ref f16)))
    (l16 : K.lookup f16 = some ⟨oc16, od16, .func (PySem.W.fnOf "reached_by" "reached_by" (defArgs t_reached_by) (defBody t_reached_by) (defScope t_reached_by) .none kV16 dc16 pm16 an16 cd16 ct16), sl16⟩)
    (c16 : PySem.W.codeIn K cd16 "reached_by" = true)
    (k16 : PySem.W.keepIn K (.ref f16) = true)
    (a17 : PySem.W.findIn K (.ref C) "__init__" = some (some (.ref f17)))
    (i17 : PySem.W.isFn K (.ref f17) = true)
    (l17 : K.lookup f17 = some ⟨oc17, od17, .func (PySem.W.fnOf "__init__" "Curve.__init__" (defArgs t_minit) (defBody t_minit) (defScope t_minit) .none kV17 dc17 pm17 an17 cd17 ct17), sl17⟩)
    (c17 : PySem.W.codeIn K cd17 "Curve.__init__" = true)
    (k17 : PySem.W.keepIn K (.ref f17) = true)
    (a18 : PySem.W.nsIn K mainGlobals "node_near" = some (some (.ref f18)))
    (l18 : K.lookup f18 = some ⟨oc18, od18, .func (PySem.W.fnOf "node_near" "node_near" (defArgs t_node_near) (defBody t_node_near) (defScope t_node_near) .none kV18 dc18 pm18 an18 cd18 ct18), sl18⟩)
    (c18 : PySem.W.codeIn K cd18 "node_near" = true)
    (k18 : PySem.W.keepIn K (.ref f18) = true)
    (a19 : PySem.W.findIn K (.ref C) "__eq__" = some (some (.ref f19)))
    (i19 : PySem.W.isFn K (.ref f19) = true)
    (l19 : K.lookup f19 = some ⟨oc19, od19, .func (PySem.W.fnOf "__eq__" "Curve.__eq__" (defArgs t_meq) (defBody t_meq) (defScope t_meq) .none kV19 dc19 pm19 an19 cd19 ct19), sl19⟩)
    (c19 : PySem.W.codeIn K cd19 "Curve.__eq__" = true)
    (k19 : PySem.W.keepIn K (.ref f19) = true)
    (a20 : PySem.W.findIn K (.ref C) "__call__" = some (some (.ref f20)))
    (i20 : PySem.W.isFn K (.ref f20) = true)
    (l20 : K.lookup f20 = some ⟨oc20, od20, .func (PySem.W.fnOf "__call__" "Curve.__call__" (defArgs t_mcall) (defBody t_mcall) (defScope t_mcall) .none kV20 dc20 pm20 an20 cd20 ct20), sl20⟩)
    (c20 : PySem.W.codeIn K cd20 "Curve.__call__" = true)
    (k20 : PySem.W.keepIn K (.ref f20) = true)
    (a21 : PySem.W.nsIn K mainGlobals "scaled_curve" = some (some (.ref f21)))
    (l21 : K.lookup f21 = some ⟨oc21, od21, .func (PySem.W.fnOf "scaled_curve" "scaled_curve" (defArgs t_scaled_curve) (defBody t_scaled_curve) (defScope t_scaled_curve) .none kV21 dc21 pm21 an21 cd21 ct21), sl21⟩)
    (c21 : PySem.W.codeIn K cd21 "scaled_curve" = true)
    (k21 : PySem.W.keepIn K (.ref f21) = true)
    (a22 : PySem.W.nsIn K mainGlobals "in_ascending_order" = some (some (.ref f22)))
    (l22 : K.lookup f22 = some ⟨oc22, od22, .func (PySem.W.fnOf "in_ascending_order" "in_ascending_order" (defArgs t_in_ascending_order) (defBody t_in_ascending_order) (defScope t_in_ascending_order) .none kV22 dc22 pm22 an22 cd22 ct22), sl22⟩)
    (c22 : PySem.W.codeIn K cd22 "in_ascending_order" = true)
    (k22 : PySem.W.keepIn K (.ref f22) = true)
    (a23 : PySem.W.nsIn K mainGlobals "all_incomes" = some (some (.ref f23)))
    (l23 : K.lookup f23 = some ⟨oc23, od23, .func (PySem.W.fnOf "all_incomes" "all_incomes" (defArgs t_all_incomes) (defBody t_all_incomes) (defScope t_all_incomes) .none kV23 dc23 pm23 an23 cd23 ct23), sl23⟩)
    (c23 : PySem.W.codeIn K cd23 "all_incomes" = true)
    (k23 : PySem.W.keepIn K (.ref f23) = true)
    (a24 : PySem.W.nsIn K mainGlobals "node_sum" = some (some (.ref f24)))
    (l24 : K.lookup f24 = some ⟨oc24, od24, .func (PySem.W.fnOf "node_sum" "node_sum" (defArgs t_node_sum) (defBody t_node_sum) (defScope t_node_sum) .none kV24 dc24 pm24 an24 cd24 ct24), sl24⟩)
    (c24 : PySem.W.codeIn K cd24 "node_sum" = true)
    (k24 : PySem.W.keepIn K (.ref f24) = true)
    (a25 : PySem.W.nsIn K mainGlobals "sum_of" = some (some (.ref f25)))
    (l25 : K.lookup f25 = some ⟨oc25, od25, .func (PySem.W.fnOf "sum_of" "sum_of" (defArgs t_sum_of) (defBody t_sum_of) (defScope t_sum_of) .none kV25 dc25 pm25 an25 cd25 ct25), sl25⟩)
    (c25 : PySem.W.codeIn K cd25 "sum_of" = true)
    (k25 : PySem.W.keepIn K (.ref f25) = true)
    (a26 : PySem.W.findIn K (.ref C) "__add__" = some (some (.ref f26)))
    (i26 : PySem.W.isFn K (.ref f26) = true)
    (l26 : K.lookup f26 = some ⟨oc26, od26, .func (PySem.W.fnOf "__add__" "Curve.__add__" (defArgs t_madd) (defBody t_madd) (defScope t_madd) .none kV26 dc26 pm26 an26 cd26 ct26), sl26⟩)
    (c26 : PySem.W.codeIn K cd26 "Curve.__add__" = true)
    (k26 : PySem.W.keepIn K (.ref f26) = true)
    (a27 : PySem.W.findIn K (.ref C) "__sub__" = some (some (.ref f27)))
    (i27 : PySem.W.isFn K (.ref f27) = true)
    (l27 : K.lookup f27 = some ⟨oc27, od27, .func (PySem.W.fnOf "__sub__" "Curve.__sub__" (defArgs t_msub) (defBody t_msub) (defScope t_msub) .none kV27 dc27 pm27 an27 cd27 ct27), sl27⟩)
    (c27 : PySem.W.codeIn K cd27 "Curve.__sub__" = true)
    (k27 : PySem.W.keepIn K (.ref f27) = true)
    (a28 : PySem.W.nsIn K mainGlobals "larger_piece" = some (some (.ref f28)))
    (l28 : K.lookup f28 = some ⟨oc28, od28, .func (PySem.W.fnOf "larger_piece" "larger_piece" (defArgs t_larger_piece) (defBody t_larger_piece) (defScope t_larger_piece) .none kV28 dc28 pm28 an28 cd28 ct28), sl28⟩)
    (c28 : PySem.W.codeIn K cd28 "larger_piece" = true)
    (k28 : PySem.W.keepIn K (.ref f28) = true)
    (a29 : PySem.W.nsIn K mainGlobals "crossing" = some (some (.ref f29)))
    (l29 : K.lookup f29 = some ⟨oc29, od29, .func (PySem.W.fnOf "crossing" "crossing" (defArgs t_crossing) (defBody t_crossing) (defScope t_crossing) .none kV29 dc29 pm29 an29 cd29 ct29), sl29⟩)
    (c29 : PySem.W.codeIn K cd29 "crossing" = true)
    (k29 : PySem.W.keepIn K (.ref f29) = true)
    (a30 : PySem.W.nsIn K mainGlobals "larger_curve" = some (some (.ref f30)))
    (l30 : K.lookup f30 = some ⟨oc30, od30, .func (PySem.W.fnOf "larger_curve" "larger_curve" (defArgs t_larger_curve) (defBody t_larger_curve) (defScope t_larger_curve) .none kV30 dc30 pm30 an30 cd30 ct30), sl30⟩)
    (c30 : PySem.W.codeIn K cd30 "larger_curve" = true)
    (k30 : PySem.W.keepIn K (.ref f30) = true)
    (a31 : PySem.W.findIn K (.ref C) "larger" = some (some (.ref f31)))
    (i31 : PySem.W.isFn K (.ref f31) = true)
    (l31 : K.lookup f31 = some ⟨oc31, od31, .func (PySem.W.fnOf "larger" "Curve.larger" (defArgs t_mlarger) (defBody t_mlarger) (defScope t_mlarger) .none kV31 dc31 pm31 an31 cd31 ct31), sl31⟩)
    (c31 : PySem.W.codeIn K cd31 "Curve.larger" = true)
    (k31 : PySem.W.keepIn K (.ref f31) = true)
    (a32 : PySem.W.nsIn K mainGlobals "inside_cuts" = some (some (.ref f32)))
    (l32 : K.lookup f32 = some ⟨oc32, od32, .func (PySem.W.fnOf "inside_cuts" "inside_cuts" (defArgs t_inside_cuts) (defBody t_inside_cuts) (defScope t_inside_cuts) .none kV32 dc32 pm32 an32 cd32 ct32), sl32⟩)
    (c32 : PySem.W.codeIn K cd32 "inside_cuts" = true)
    (k32 : PySem.W.keepIn K (.ref f32) = true)
    (a33 : PySem.W.nsIn K mainGlobals "highest_so_far" = some (some (.ref f33)))
    (l33 : K.lookup f33 = some ⟨oc33, od33, .func (PySem.W.fnOf "highest_so_far" "highest_so_far" (defArgs t_highest_so_far) (defBody t_highest_so_far) (defScope t_highest_so_far) .none kV33 dc33 pm33 an33 cd33 ct33), sl33⟩)
    (c33 : PySem.W.codeIn K cd33 "highest_so_far" = true)
    (k33 : PySem.W.keepIn K (.ref f33) = true)
    (a34 : PySem.W.nsIn K mainGlobals "check_rates" = some (some (.ref f34)))
    (l34 : K.lookup f34 = some ⟨oc34, od34, .func (PySem.W.fnOf "check_rates" "check_rates" (defArgs t_check_rates) (defBody t_check_rates) (defScope t_check_rates) .none kV34 dc34 pm34 an34 cd34 ct34), sl34⟩)
    (c34 : PySem.W.codeIn K cd34 "check_rates" = true)
    (k34 : PySem.W.keepIn K (.ref f34) = true)
    (a35 : PySem.W.nsIn K mainGlobals "line_curve" = some (some (.ref f35)))
    (l35 : K.lookup f35 = some ⟨oc35, od35, .func (PySem.W.fnOf "line_curve" "line_curve" (defArgs t_line_curve) (defBody t_line_curve) (defScope t_line_curve) .none kV35 dc35 pm35 an35 cd35 ct35), sl35⟩)
    (c35 : PySem.W.codeIn K cd35 "line_curve" = true)
    (k35 : PySem.W.keepIn K (.ref f35) = true)
    (a36 : PySem.W.nsIn K mainGlobals "number_at" = some (some (.ref f36)))
    (l36 : K.lookup f36 = some ⟨oc36, od36, .func (PySem.W.fnOf "number_at" "number_at" (defArgs t_number_at) (defBody t_number_at) (defScope t_number_at) .none kV36 dc36 pm36 an36 cd36 ct36), sl36⟩)
    (c36 : PySem.W.codeIn K cd36 "number_at" = true)
    (k36 : PySem.W.keepIn K (.ref f36) = true)
    (a37 : PySem.W.nsIn K mainGlobals "are_steps_kept" = some (some (.ref f37)))
    (l37 : K.lookup f37 = some ⟨oc37, od37, .func (PySem.W.fnOf "are_steps_kept" "are_steps_kept" (defArgs t_are_steps_kept) (defBody t_are_steps_kept) (defScope t_are_steps_kept) .none kV37 dc37 pm37 an37 cd37 ct37), sl37⟩)
    (c37 : PySem.W.codeIn K cd37 "are_steps_kept" = true)
    (k37 : PySem.W.keepIn K (.ref f37) = true)
    (a38 : PySem.W.nsIn K mainGlobals "keeps_between" = some (some (.ref f38)))
    (l38 : K.lookup f38 = some ⟨oc38, od38, .func (PySem.W.fnOf "keeps_between" "keeps_between" (defArgs t_keeps_between) (defBody t_keeps_between) (defScope t_keeps_between) .none kV38 dc38 pm38 an38 cd38 ct38), sl38⟩)
    (c38 : PySem.W.codeIn K cd38 "keeps_between" = true)
    (k38 : PySem.W.keepIn K (.ref f38) = true)
    (a39 : PySem.W.nsIn K mainGlobals "falling_nodes" = some (some (.ref f39)))
    (l39 : K.lookup f39 = some ⟨oc39, od39, .func (PySem.W.fnOf "falling_nodes" "falling_nodes" (defArgs t_falling_nodes) (defBody t_falling_nodes) (defScope t_falling_nodes) .none kV39 dc39 pm39 an39 cd39 ct39), sl39⟩)
    (c39 : PySem.W.codeIn K cd39 "falling_nodes" = true)
    (k39 : PySem.W.keepIn K (.ref f39) = true)
    (a40 : PySem.W.nsIn K mainGlobals "highest_behind" = some (some (.ref f40)))
    (l40 : K.lookup f40 = some ⟨oc40, od40, .func (PySem.W.fnOf "highest_behind" "highest_behind" (defArgs t_highest_behind) (defBody t_highest_behind) (defScope t_highest_behind) .none kV40 dc40 pm40 an40 cd40 ct40), sl40⟩)
    (c40 : PySem.W.codeIn K cd40 "highest_behind" = true)
    (k40 : PySem.W.keepIn K (.ref f40) = true)
    (a41 : PySem.W.nsIn K mainGlobals "least_between" = some (some (.ref f41)))
    (l41 : K.lookup f41 = some ⟨oc41, od41, .func (PySem.W.fnOf "least_between" "least_between" (defArgs t_least_between) (defBody t_least_between) (defScope t_least_between) .none kV41 dc41 pm41 an41 cd41 ct41), sl41⟩)
    (c41 : PySem.W.codeIn K cd41 "least_between" = true)
    (k41 : PySem.W.keepIn K (.ref f41) = true)
    (a42 : PySem.W.nsIn K mainGlobals "places_near" = some (some (.ref f42)))
    (l42 : K.lookup f42 = some ⟨oc42, od42, .func (PySem.W.fnOf "places_near" "places_near" (defArgs t_places_near) (defBody t_places_near) (defScope t_places_near) .none kV42 dc42 pm42 an42 cd42 ct42), sl42⟩)
    (c42 : PySem.W.codeIn K cd42 "places_near" = true)
    (k42 : PySem.W.keepIn K (.ref f42) = true)
    (a43 : PySem.W.nsIn K mainGlobals "leads" = some (some (.ref f43)))
    (l43 : K.lookup f43 = some ⟨oc43, od43, .func (PySem.W.fnOf "leads" "leads" (defArgs t_leads) (defBody t_leads) (defScope t_leads) .none kV43 dc43 pm43 an43 cd43 ct43), sl43⟩)
    (c43 : PySem.W.codeIn K cd43 "leads" = true)
    (k43 : PySem.W.keepIn K (.ref f43) = true)
    (a44 : PySem.W.nsIn K mainGlobals "reached_from" = some (some (.ref f44)))
    (l44 : K.lookup f44 = some ⟨oc44, od44, .func (PySem.W.fnOf "reached_from" "reached_from" (defArgs t_reached_from) (defBody t_reached_from) (defScope t_reached_from) .none kV44 dc44 pm44 an44 cd44 ct44), sl44⟩)
    (c44 : PySem.W.codeIn K cd44 "reached_from" = true)
    (k44 : PySem.W.keepIn K (.ref f44) = true)
    (a45 : PySem.W.nsIn K mainGlobals "_law_feed" = some (some (.ref f45)))
    (l45 : K.lookup f45 = some ⟨oc45, od45, .func (PySem.W.fnOf "_law_feed" "_law_feed" (defArgs t_l_feed) (defBody t_l_feed) (defScope t_l_feed) .none kV45 dc45 pm45 an45 cd45 ct45), sl45⟩)
    (c45 : PySem.W.codeIn K cd45 "_law_feed" = true)
    (k45 : PySem.W.keepIn K (.ref f45) = true)
    (a46 : PySem.W.nsIn K mainGlobals "_law_take" = some (some (.ref f46)))
    (l46 : K.lookup f46 = some ⟨oc46, od46, .func (PySem.W.fnOf "_law_take" "_law_take" (defArgs t_l_take) (defBody t_l_take) (defScope t_l_take) .none kV46 dc46 pm46 an46 cd46 ct46), sl46⟩)
    (c46 : PySem.W.codeIn K cd46 "_law_take" = true)
    (k46 : PySem.W.keepIn K (.ref f46) = true)
    (a47 : PySem.W.nsIn K mainGlobals "_law_pick" = some (some (.ref f47)))
    (l47 : K.lookup f47 = some ⟨oc47, od47, .func (PySem.W.fnOf "_law_pick" "_law_pick" (defArgs t_l_pick) (defBody t_l_pick) (defScope t_l_pick) .none kV47 dc47 pm47 an47 cd47 ct47), sl47⟩)
    (c47 : PySem.W.codeIn K cd47 "_law_pick" = true)
    (k47 : PySem.W.keepIn K (.ref f47) = true)
    (a48 : PySem.W.nsIn K mainGlobals "_law_divisor" = some (some (.ref f48)))
    (l48 : K.lookup f48 = some ⟨oc48, od48, .func (PySem.W.fnOf "_law_divisor" "_law_divisor" (defArgs t_l_divisor) (defBody t_l_divisor) (defScope t_l_divisor) .none kV48 dc48 pm48 an48 cd48 ct48), sl48⟩)
    (c48 : PySem.W.codeIn K cd48 "_law_divisor" = true)
    (k48 : PySem.W.keepIn K (.ref f48) = true)
    (a49 : PySem.W.nsIn K mainGlobals "_law_number" = some (some (.ref f49)))
    (l49 : K.lookup f49 = some ⟨oc49, od49, .func (PySem.W.fnOf "_law_number" "_law_number" (defArgs t_l_number) (defBody t_l_number) (defScope t_l_number) .none kV49 dc49 pm49 an49 cd49 ct49), sl49⟩)
    (c49 : PySem.W.codeIn K cd49 "_law_number" = true)
    (k49 : PySem.W.keepIn K (.ref f49) = true)
    (a50 : PySem.W.nsIn K mainGlobals "_law_plus" = some (some (.ref f50)))
    (l50 : K.lookup f50 = some ⟨oc50, od50, .func (PySem.W.fnOf "_law_plus" "_law_plus" (defArgs t_l_plus) (defBody t_l_plus) (defScope t_l_plus) .none kV50 dc50 pm50 an50 cd50 ct50), sl50⟩)
    (c50 : PySem.W.codeIn K cd50 "_law_plus" = true)
    (k50 : PySem.W.keepIn K (.ref f50) = true)
    (a51 : PySem.W.nsIn K mainGlobals "_law_minus" = some (some (.ref f51)))
    (l51 : K.lookup f51 = some ⟨oc51, od51, .func (PySem.W.fnOf "_law_minus" "_law_minus" (defArgs t_l_minus) (defBody t_l_minus) (defScope t_l_minus) .none kV51 dc51 pm51 an51 cd51 ct51), sl51⟩)
    (c51 : PySem.W.codeIn K cd51 "_law_minus" = true)
    (k51 : PySem.W.keepIn K (.ref f51) = true)
    (a52 : PySem.W.nsIn K mainGlobals "_law_by" = some (some (.ref f52)))
    (l52 : K.lookup f52 = some ⟨oc52, od52, .func (PySem.W.fnOf "_law_by" "_law_by" (defArgs t_l_by) (defBody t_l_by) (defScope t_l_by) .none kV52 dc52 pm52 an52 cd52 ct52), sl52⟩)
    (c52 : PySem.W.codeIn K cd52 "_law_by" = true)
    (k52 : PySem.W.keepIn K (.ref f52) = true)
    (a53 : PySem.W.nsIn K mainGlobals "_law_less" = some (some (.ref f53)))
    (l53 : K.lookup f53 = some ⟨oc53, od53, .func (PySem.W.fnOf "_law_less" "_law_less" (defArgs t_l_less) (defBody t_l_less) (defScope t_l_less) .none kV53 dc53 pm53 an53 cd53 ct53), sl53⟩)
    (c53 : PySem.W.codeIn K cd53 "_law_less" = true)
    (k53 : PySem.W.keepIn K (.ref f53) = true)
    (a54 : PySem.W.nsIn K mainGlobals "_law_some_number" = some (some (.ref f54)))
    (l54 : K.lookup f54 = some ⟨oc54, od54, .func (PySem.W.fnOf "_law_some_number" "_law_some_number" (defArgs t_l_some_number) (defBody t_l_some_number) (defScope t_l_some_number) .none kV54 dc54 pm54 an54 cd54 ct54), sl54⟩)
    (c54 : PySem.W.codeIn K cd54 "_law_some_number" = true)
    (k54 : PySem.W.keepIn K (.ref f54) = true)
    (a55 : PySem.W.nsIn K mainGlobals "_law_line" = some (some (.ref f55)))
    (l55 : K.lookup f55 = some ⟨oc55, od55, .func (PySem.W.fnOf "_law_line" "_law_line" (defArgs t_l_line) (defBody t_l_line) (defScope t_l_line) .none kV55 dc55 pm55 an55 cd55 ct55), sl55⟩)
    (c55 : PySem.W.codeIn K cd55 "_law_line" = true)
    (k55 : PySem.W.keepIn K (.ref f55) = true)
    (a56 : PySem.W.nsIn K mainGlobals "_law_needed" = some (some (.ref f56)))
    (l56 : K.lookup f56 = some ⟨oc56, od56, .func (PySem.W.fnOf "_law_needed" "_law_needed" (defArgs t_l_needed) (defBody t_l_needed) (defScope t_l_needed) .none kV56 dc56 pm56 an56 cd56 ct56), sl56⟩)
    (c56 : PySem.W.codeIn K cd56 "_law_needed" = true)
    (k56 : PySem.W.keepIn K (.ref f56) = true)
    (a57 : PySem.W.nsIn K mainGlobals "_law_few" = some (some (.ref f57)))
    (l57 : K.lookup f57 = some ⟨oc57, od57, .func (PySem.W.fnOf "_law_few" "_law_few" (defArgs t_l_few) (defBody t_l_few) (defScope t_l_few) .none kV57 dc57 pm57 an57 cd57 ct57), sl57⟩)
    (c57 : PySem.W.codeIn K cd57 "_law_few" = true)
    (k57 : PySem.W.keepIn K (.ref f57) = true)
    (a58 : PySem.W.nsIn K mainGlobals "_law_rates" = some (some (.ref f58)))
    (l58 : K.lookup f58 = some ⟨oc58, od58, .func (PySem.W.fnOf "_law_rates" "_law_rates" (defArgs t_l_rates) (defBody t_l_rates) (defScope t_l_rates) .none kV58 dc58 pm58 an58 cd58 ct58), sl58⟩)
    (c58 : PySem.W.codeIn K cd58 "_law_rates" = true)
    (k58 : PySem.W.keepIn K (.ref f58) = true)
    (a59 : PySem.W.nsIn K mainGlobals "_law_fits_right" = some (some (.ref f59)))
    (l59 : K.lookup f59 = some ⟨oc59, od59, .func (PySem.W.fnOf "_law_fits_right" "_law_fits_right" (defArgs t_l_fits_right) (defBody t_l_fits_right) (defScope t_l_fits_right) .none kV59 dc59 pm59 an59 cd59 ct59), sl59⟩)
    (c59 : PySem.W.codeIn K cd59 "_law_fits_right" = true)
    (k59 : PySem.W.keepIn K (.ref f59) = true)
    (a60 : PySem.W.nsIn K mainGlobals "_law_is_right" = some (some (.ref f60)))
    (l60 : K.lookup f60 = some ⟨oc60, od60, .func (PySem.W.fnOf "_law_is_right" "_law_is_right" (defArgs t_l_is_right) (defBody t_l_is_right) (defScope t_l_is_right) .none kV60 dc60 pm60 an60 cd60 ct60), sl60⟩)
    (c60 : PySem.W.codeIn K cd60 "_law_is_right" = true)
    (k60 : PySem.W.keepIn K (.ref f60) = true)
    (a61 : PySem.W.nsIn K mainGlobals "law" = some (some (.ref f61)))
    (l61 : K.lookup f61 = some ⟨oc61, od61, .func (PySem.W.fnOf "law" "law" (defArgs t_law) (defBody t_law) (defScope t_law) .none kV61 dc61 pm61 an61 cd61 ct61), sl61⟩)
    (c61 : PySem.W.codeIn K cd61 "law" = true)
    (k61 : PySem.W.keepIn K (.ref f61) = true)
    : ∃ fd : FuncData, (∀ (s : Shared) (v : Value), BindsTo s fd ⟨[v], []⟩ [("_law_script", v)]) ∧ ∀ base : Heap, K.In base → base.Ns mainGlobals mg → FnOk l.prog w K mg base CX0 16 fa fd ["_law_script"] (sp_law K) := by
  have e := hfa.symm.trans (PySem.W.mg_of X G a61)
  cases e
  have g1 : mg "Curve" = some (.ref C) := PySem.W.mg_of X G aC
  have g2 : mg "ZERO" = some (.ref adZ) := PySem.W.mg_of X G aZ
  have g3 : mg "TOP" = some (.ref adT) := PySem.W.mg_of X G aT
  have g4 : ∀ H : Hp, Fp K H (.ref adT) (.tuple [.int 1, numD 0, .int 0]) := fun H => .tup (xs := [.int 1, .ref adU, .int 0]) (.inr ⟨_, _, nT, lT, rfl, rfl, (by show 3 ≤ sizeLine; decide), .cons ⟨_, rfl⟩ (.cons rfl (.cons ⟨_, rfl⟩ .nil))⟩) (.cons (.int _) (.cons (num_of lU H) (.cons (.int _) .nil)))
  have T : Txt ⟨K, C⟩ mg adZ adT := ⟨⟨pg, hd, po, sa⟩, nN, g1, mk, kc, sf, ca, cn, ct, cm, ne, g2, num_of lZ, g3, g4, PySem.W.mg_none_of X G z_abs, PySem.W.mg_none_of X G z_len, PySem.W.mg_none_of X G z_isinstance, PySem.W.mg_none_of X G z_int, PySem.W.mg_none_of X G z_bool, PySem.W.mg_none_of X G z_tuple, PySem.W.mg_none_of X G z_list, PySem.W.mg_none_of X G z_all, PySem.W.mg_none_of X G z_enumerate, PySem.W.mg_none_of X G z_zip, PySem.W.mg_none_of X G z_range, PySem.W.mg_none_of X G z_max, PySem.W.mg_none_of X G z_min⟩
  have F0 := fun_mk (st := t_common_divisor) l0 c0 k0
  have b0 := F0.binds (ps := ["first", "second"]) fun _ _ _ _ _ _ us hl => match us, hl with | [_, _], _ => rfl
  have S0 : Src K mg "common_divisor" t_common_divisor ["first", "second"] := ⟨_, _, F0, PySem.W.mg_of X G a0, b0⟩
  have F1 := fun_mk (st := t_exact) l1 c1 k1
  have b1 := F1.binds (ps := ["top", "bottom"]) fun _ _ _ _ _ _ us hl => match us, hl with | [_, _], _ => rfl
  have S1 : Src K mg "exact" t_exact ["top", "bottom"] := ⟨_, _, F1, PySem.W.mg_of X G a1, b1⟩
  have F2 := fun_mk (st := t_is_integer) l2 c2 k2
  have b2 := F2.binds (ps := ["value"]) fun _ _ _ _ _ _ us hl => match us, hl with | [_], _ => rfl
  have S2 : Src K mg "is_integer" t_is_integer ["value"] := ⟨_, _, F2, PySem.W.mg_of X G a2, b2⟩
  have F3 := fun_mk (st := t_is_number) l3 c3 k3
  have b3 := F3.binds (ps := ["value"]) fun _ _ _ _ _ _ us hl => match us, hl with | [_], _ => rfl
  have S3 : Src K mg "is_number" t_is_number ["value"] := ⟨_, _, F3, PySem.W.mg_of X G a3, b3⟩
  have F4 := fun_mk (st := t_plus) l4 c4 k4
  have b4 := F4.binds (ps := ["first", "second"]) fun _ _ _ _ _ _ us hl => match us, hl with | [_, _], _ => rfl
  have S4 : Src K mg "plus" t_plus ["first", "second"] := ⟨_, _, F4, PySem.W.mg_of X G a4, b4⟩
  have F5 := fun_mk (st := t_negative) l5 c5 k5
  have b5 := F5.binds (ps := ["number"]) fun _ _ _ _ _ _ us hl => match us, hl with | [_], _ => rfl
  have S5 : Src K mg "negative" t_negative ["number"] := ⟨_, _, F5, PySem.W.mg_of X G a5, b5⟩
  have F6 := fun_mk (st := t_minus) l6 c6 k6
  have b6 := F6.binds (ps := ["first", "second"]) fun _ _ _ _ _ _ us hl => match us, hl with | [_, _], _ => rfl
  have S6 : Src K mg "minus" t_minus ["first", "second"] := ⟨_, _, F6, PySem.W.mg_of X G a6, b6⟩
  have F7 := fun_mk (st := t_product) l7 c7 k7
  have b7 := F7.binds (ps := ["first", "second"]) fun _ _ _ _ _ _ us hl => match us, hl with | [_, _], _ => rfl
  have S7 : Src K mg "product" t_product ["first", "second"] := ⟨_, _, F7, PySem.W.mg_of X G a7, b7⟩
  have F8 := fun_mk (st := t_quotient) l8 c8 k8
  have b8 := F8.binds (ps := ["first", "second"]) fun _ _ _ _ _ _ us hl => match us, hl with | [_, _], _ => rfl
  have S8 : Src K mg "quotient" t_quotient ["first", "second"] := ⟨_, _, F8, PySem.W.mg_of X G a8, b8⟩
  have F9 := fun_mk (st := t_is_less) l9 c9 k9
  have b9 := F9.binds (ps := ["first", "second"]) fun _ _ _ _ _ _ us hl => match us, hl with | [_, _], _ => rfl
  have S9 : Src K mg "is_less" t_is_less ["first", "second"] := ⟨_, _, F9, PySem.W.mg_of X G a9, b9⟩
  have F10 := fun_mk (st := t_larger_of) l10 c10 k10
  have b10 := F10.binds (ps := ["first", "second"]) fun _ _ _ _ _ _ us hl => match us, hl with | [_, _], _ => rfl
  have S10 : Src K mg "larger_of" t_larger_of ["first", "second"] := ⟨_, _, F10, PySem.W.mg_of X G a10, b10⟩
  have F11 := fun_mk (st := t_below) l11 c11 k11
  have b11 := F11.binds (ps := ["number"]) fun _ _ _ _ _ _ us hl => match us, hl with | [_], _ => rfl
  have S11 : Src K mg "below" t_below ["number"] := ⟨_, _, F11, PySem.W.mg_of X G a11, b11⟩
  have F12 := fun_mk (st := t_above) l12 c12 k12
  have b12 := F12.binds (ps := ["number"]) fun _ _ _ _ _ _ us hl => match us, hl with | [_], _ => rfl
  have S12 : Src K mg "above" t_above ["number"] := ⟨_, _, F12, PySem.W.mg_of X G a12, b12⟩
  have F13 := fun_mk (st := t_comes_before) l13 c13 k13
  have b13 := F13.binds (ps := ["first", "second"]) fun _ _ _ _ _ _ us hl => match us, hl with | [_, _], _ => rfl
  have S13 : Src K mg "comes_before" t_comes_before ["first", "second"] := ⟨_, _, F13, PySem.W.mg_of X G a13, b13⟩
  have F14 := fun_mk (st := t_check_income) l14 c14 k14
  have b14 := F14.binds (ps := ["income"]) fun _ _ _ _ _ _ us hl => match us, hl with | [_], _ => rfl
  have S14 : Src K mg "check_income" t_check_income ["income"] := ⟨_, _, F14, PySem.W.mg_of X G a14, b14⟩
  have F15 := fun_mk (st := t_are_nodes) l15 c15 k15
  have b15 := F15.binds (ps := ["value"]) fun _ _ _ _ _ _ us hl => match us, hl with | [_], _ => rfl
  have S15 : Src K mg "are_nodes" t_are_nodes ["value"] := ⟨_, _, F15, PySem.W.mg_of X G a15, b15⟩
  have F16 := fun_mk (st := t_reached_by) l16 c16 k16
  have b16 := F16.binds (ps := ["node", "income"]) fun _ _ _ _ _ _ us hl => match us, hl with | [_, _], _ => rfl
  have S16 : Src K mg "reached_by" t_reached_by ["node", "income"] := ⟨_, _, F16, PySem.W.mg_of X G a16, b16⟩
  have F17 := fun_mk (st := t_minit) l17 c17 k17
  have b17 := F17.binds (ps := ["self", "nodes"]) fun _ _ _ _ _ _ us hl => match us, hl with | [_, _], _ => rfl
  have S17 : SrcM K C "__init__" "Curve.__init__" t_minit ["self", "nodes"] := ⟨_, _, F17, a17, i17, b17⟩
  have F18 := fun_mk (st := t_node_near) l18 c18 k18
  have b18 := F18.binds (ps := ["nodes", "income"]) fun _ _ _ _ _ _ us hl => match us, hl with | [_, _], _ => rfl
  have S18 : Src K mg "node_near" t_node_near ["nodes", "income"] := ⟨_, _, F18, PySem.W.mg_of X G a18, b18⟩
  have F19 := fun_mk (st := t_meq) l19 c19 k19
  have b19 := F19.binds (ps := ["self", "other"]) fun _ _ _ _ _ _ us hl => match us, hl with | [_, _], _ => rfl
  have S19 : SrcM K C "__eq__" "Curve.__eq__" t_meq ["self", "other"] := ⟨_, _, F19, a19, i19, b19⟩
  have F20 := fun_mk (st := t_mcall) l20 c20 k20
  have b20 := F20.binds (ps := ["self", "income"]) fun _ _ _ _ _ _ us hl => match us, hl with | [_, _], _ => rfl
  have S20 : SrcM K C "__call__" "Curve.__call__" t_mcall ["self", "income"] := ⟨_, _, F20, a20, i20, b20⟩
  have F21 := fun_mk (st := t_scaled_curve) l21 c21 k21
  have b21 := F21.binds (ps := ["curve", "number"]) fun _ _ _ _ _ _ us hl => match us, hl with | [_, _], _ => rfl
  have S21 : Src K mg "scaled_curve" t_scaled_curve ["curve", "number"] := ⟨_, _, F21, PySem.W.mg_of X G a21, b21⟩
  have F22 := fun_mk (st := t_in_ascending_order) l22 c22 k22
  have b22 := F22.binds (ps := ["numbers"]) fun _ _ _ _ _ _ us hl => match us, hl with | [_], _ => rfl
  have S22 : Src K mg "in_ascending_order" t_in_ascending_order ["numbers"] := ⟨_, _, F22, PySem.W.mg_of X G a22, b22⟩
  have F23 := fun_mk (st := t_all_incomes) l23 c23 k23
  have b23 := F23.binds (ps := ["first", "second"]) fun _ _ _ _ _ _ us hl => match us, hl with | [_, _], _ => rfl
  have S23 : Src K mg "all_incomes" t_all_incomes ["first", "second"] := ⟨_, _, F23, PySem.W.mg_of X G a23, b23⟩
  have F24 := fun_mk (st := t_node_sum) l24 c24 k24
  have b24 := F24.binds (ps := ["first", "second", "income"]) fun _ _ _ _ _ _ us hl => match us, hl with | [_, _, _], _ => rfl
  have S24 : Src K mg "node_sum" t_node_sum ["first", "second", "income"] := ⟨_, _, F24, PySem.W.mg_of X G a24, b24⟩
  have F25 := fun_mk (st := t_sum_of) l25 c25 k25
  have b25 := F25.binds (ps := ["first", "second"]) fun _ _ _ _ _ _ us hl => match us, hl with | [_, _], _ => rfl
  have S25 : Src K mg "sum_of" t_sum_of ["first", "second"] := ⟨_, _, F25, PySem.W.mg_of X G a25, b25⟩
  have F26 := fun_mk (st := t_madd) l26 c26 k26
  have b26 := F26.binds (ps := ["self", "other"]) fun _ _ _ _ _ _ us hl => match us, hl with | [_, _], _ => rfl
  have S26 : SrcM K C "__add__" "Curve.__add__" t_madd ["self", "other"] := ⟨_, _, F26, a26, i26, b26⟩
  have F27 := fun_mk (st := t_msub) l27 c27 k27
  have b27 := F27.binds (ps := ["self", "other"]) fun _ _ _ _ _ _ us hl => match us, hl with | [_, _], _ => rfl
  have S27 : SrcM K C "__sub__" "Curve.__sub__" t_msub ["self", "other"] := ⟨_, _, F27, a27, i27, b27⟩
  have F28 := fun_mk (st := t_larger_piece) l28 c28 k28
  have b28 := F28.binds (ps := ["first", "second"]) fun _ _ _ _ _ _ us hl => match us, hl with | [_, _], _ => rfl
  have S28 : Src K mg "larger_piece" t_larger_piece ["first", "second"] := ⟨_, _, F28, PySem.W.mg_of X G a28, b28⟩
  have F29 := fun_mk (st := t_crossing) l29 c29 k29
  have b29 := F29.binds (ps := ["income", "first", "second"]) fun _ _ _ _ _ _ us hl => match us, hl with | [_, _, _], _ => rfl
  have S29 : Src K mg "crossing" t_crossing ["income", "first", "second"] := ⟨_, _, F29, PySem.W.mg_of X G a29, b29⟩
  have F30 := fun_mk (st := t_larger_curve) l30 c30 k30
  have b30 := F30.binds (ps := ["first", "second"]) fun _ _ _ _ _ _ us hl => match us, hl with | [_, _], _ => rfl
  have S30 : Src K mg "larger_curve" t_larger_curve ["first", "second"] := ⟨_, _, F30, PySem.W.mg_of X G a30, b30⟩
  have F31 := fun_mk (st := t_mlarger) l31 c31 k31
  have b31 := F31.binds (ps := ["self", "other"]) fun _ _ _ _ _ _ us hl => match us, hl with | [_, _], _ => rfl
  have S31 : SrcM K C "larger" "Curve.larger" t_mlarger ["self", "other"] := ⟨_, _, F31, a31, i31, b31⟩
  have F32 := fun_mk (st := t_inside_cuts) l32 c32 k32
  have b32 := F32.binds (ps := ["curve", "place"]) fun _ _ _ _ _ _ us hl => match us, hl with | [_, _], _ => rfl
  have S32 : Src K mg "inside_cuts" t_inside_cuts ["curve", "place"] := ⟨_, _, F32, PySem.W.mg_of X G a32, b32⟩
  have F33 := fun_mk (st := t_highest_so_far) l33 c33 k33
  have b33 := F33.binds (ps := ["curve"]) fun _ _ _ _ _ _ us hl => match us, hl with | [_], _ => rfl
  have S33 : Src K mg "highest_so_far" t_highest_so_far ["curve"] := ⟨_, _, F33, PySem.W.mg_of X G a33, b33⟩
  have F34 := fun_mk (st := t_check_rates) l34 c34 k34
  have b34 := F34.binds (ps := ["low", "high"]) fun _ _ _ _ _ _ us hl => match us, hl with | [_, _], _ => rfl
  have S34 : Src K mg "check_rates" t_check_rates ["low", "high"] := ⟨_, _, F34, PySem.W.mg_of X G a34, b34⟩
  have F35 := fun_mk (st := t_line_curve) l35 c35 k35
  have b35 := F35.binds (ps := ["slope"]) fun _ _ _ _ _ _ us hl => match us, hl with | [_], _ => rfl
  have S35 : Src K mg "line_curve" t_line_curve ["slope"] := ⟨_, _, F35, PySem.W.mg_of X G a35, b35⟩
  have F36 := fun_mk (st := t_number_at) l36 c36 k36
  have b36 := F36.binds (ps := ["curve", "place"]) fun _ _ _ _ _ _ us hl => match us, hl with | [_, _], _ => rfl
  have S36 : Src K mg "number_at" t_number_at ["curve", "place"] := ⟨_, _, F36, PySem.W.mg_of X G a36, b36⟩
  have F37 := fun_mk (st := t_are_steps_kept) l37 c37 k37
  have b37 := F37.binds (ps := ["curve", "low", "high"]) fun _ _ _ _ _ _ us hl => match us, hl with | [_, _, _], _ => rfl
  have S37 : Src K mg "are_steps_kept" t_are_steps_kept ["curve", "low", "high"] := ⟨_, _, F37, PySem.W.mg_of X G a37, b37⟩
  have F38 := fun_mk (st := t_keeps_between) l38 c38 k38
  have b38 := F38.binds (ps := ["curve", "low", "high"]) fun _ _ _ _ _ _ us hl => match us, hl with | [_, _, _], _ => rfl
  have S38 : Src K mg "keeps_between" t_keeps_between ["curve", "low", "high"] := ⟨_, _, F38, PySem.W.mg_of X G a38, b38⟩
  have F39 := fun_mk (st := t_falling_nodes) l39 c39 k39
  have b39 := F39.binds (ps := ["node", "rest", "last"]) fun _ _ _ _ _ _ us hl => match us, hl with | [_, _, _], _ => rfl
  have S39 : Src K mg "falling_nodes" t_falling_nodes ["node", "rest", "last"] := ⟨_, _, F39, PySem.W.mg_of X G a39, b39⟩
  have F40 := fun_mk (st := t_highest_behind) l40 c40 k40
  have b40 := F40.binds (ps := ["curve"]) fun _ _ _ _ _ _ us hl => match us, hl with | [_], _ => rfl
  have S40 : Src K mg "highest_behind" t_highest_behind ["curve"] := ⟨_, _, F40, PySem.W.mg_of X G a40, b40⟩
  have F41 := fun_mk (st := t_least_between) l41 c41 k41
  have b41 := F41.binds (ps := ["curve", "low", "high"]) fun _ _ _ _ _ _ us hl => match us, hl with | [_, _, _], _ => rfl
  have S41 : Src K mg "least_between" t_least_between ["curve", "low", "high"] := ⟨_, _, F41, PySem.W.mg_of X G a41, b41⟩
  have F42 := fun_mk (st := t_places_near) l42 c42 k42
  have b42 := F42.binds (ps := ["curve", "income"]) fun _ _ _ _ _ _ us hl => match us, hl with | [_, _], _ => rfl
  have S42 : Src K mg "places_near" t_places_near ["curve", "income"] := ⟨_, _, F42, PySem.W.mg_of X G a42, b42⟩
  have F43 := fun_mk (st := t_leads) l43 c43 k43
  have b43 := F43.binds (ps := ["curve", "low", "high", "income", "place", "number"]) fun _ _ _ _ _ _ us hl => match us, hl with | [_, _, _, _, _, _], _ => rfl
  have S43 : Src K mg "leads" t_leads ["curve", "low", "high", "income", "place", "number"] := ⟨_, _, F43, PySem.W.mg_of X G a43, b43⟩
  have F44 := fun_mk (st := t_reached_from) l44 c44 k44
  have b44 := F44.binds (ps := ["curve", "low", "high", "income"]) fun _ _ _ _ _ _ us hl => match us, hl with | [_, _, _, _], _ => rfl
  have S44 : Src K mg "reached_from" t_reached_from ["curve", "low", "high", "income"] := ⟨_, _, F44, PySem.W.mg_of X G a44, b44⟩
  have F45 := fun_mk (st := t_l_feed) l45 c45 k45
  have b45 := F45.binds (ps := ["_law_script", "_law_k"]) fun _ _ _ _ _ _ us hl => match us, hl with | [_, _], _ => rfl
  have S45 : Src K mg "_law_feed" t_l_feed ["_law_script", "_law_k"] := ⟨_, _, F45, PySem.W.mg_of X G a45, b45⟩
  have F46 := fun_mk (st := t_l_take) l46 c46 k46
  have b46 := F46.binds (ps := ["_law_feed_here", "_law_size"]) fun _ _ _ _ _ _ us hl => match us, hl with | [_, _], _ => rfl
  have S46 : Src K mg "_law_take" t_l_take ["_law_feed_here", "_law_size"] := ⟨_, _, F46, PySem.W.mg_of X G a46, b46⟩
  have F47 := fun_mk (st := t_l_pick) l47 c47 k47
  have b47 := F47.binds (ps := ["_law_feed_here", "_law_choices"]) fun _ _ _ _ _ _ us hl => match us, hl with | [_, _], _ => rfl
  have S47 : Src K mg "_law_pick" t_l_pick ["_law_feed_here", "_law_choices"] := ⟨_, _, F47, PySem.W.mg_of X G a47, b47⟩
  have F48 := fun_mk (st := t_l_divisor) l48 c48 k48
  have b48 := F48.binds (ps := ["_law_first", "_law_second"]) fun _ _ _ _ _ _ us hl => match us, hl with | [_, _], _ => rfl
  have S48 : Src K mg "_law_divisor" t_l_divisor ["_law_first", "_law_second"] := ⟨_, _, F48, PySem.W.mg_of X G a48, b48⟩
  have F49 := fun_mk (st := t_l_number) l49 c49 k49
  have b49 := F49.binds (ps := ["_law_top", "_law_bottom"]) fun _ _ _ _ _ _ us hl => match us, hl with | [_, _], _ => rfl
  have S49 : Src K mg "_law_number" t_l_number ["_law_top", "_law_bottom"] := ⟨_, _, F49, PySem.W.mg_of X G a49, b49⟩
  have F50 := fun_mk (st := t_l_plus) l50 c50 k50
  have b50 := F50.binds (ps := ["_law_first", "_law_second"]) fun _ _ _ _ _ _ us hl => match us, hl with | [_, _], _ => rfl
  have S50 : Src K mg "_law_plus" t_l_plus ["_law_first", "_law_second"] := ⟨_, _, F50, PySem.W.mg_of X G a50, b50⟩
  have F51 := fun_mk (st := t_l_minus) l51 c51 k51
  have b51 := F51.binds (ps := ["_law_first", "_law_second"]) fun _ _ _ _ _ _ us hl => match us, hl with | [_, _], _ => rfl
  have S51 : Src K mg "_law_minus" t_l_minus ["_law_first", "_law_second"] := ⟨_, _, F51, PySem.W.mg_of X G a51, b51⟩
  have F52 := fun_mk (st := t_l_by) l52 c52 k52
  have b52 := F52.binds (ps := ["_law_first", "_law_second"]) fun _ _ _ _ _ _ us hl => match us, hl with | [_, _], _ => rfl
  have S52 : Src K mg "_law_by" t_l_by ["_law_first", "_law_second"] := ⟨_, _, F52, PySem.W.mg_of X G a52, b52⟩
  have F53 := fun_mk (st := t_l_less) l53 c53 k53
  have b53 := F53.binds (ps := ["_law_first", "_law_second"]) fun _ _ _ _ _ _ us hl => match us, hl with | [_, _], _ => rfl
  have S53 : Src K mg "_law_less" t_l_less ["_law_first", "_law_second"] := ⟨_, _, F53, PySem.W.mg_of X G a53, b53⟩
  have F54 := fun_mk (st := t_l_some_number) l54 c54 k54
  have b54 := F54.binds (ps := ["_law_feed_here"]) fun _ _ _ _ _ _ us hl => match us, hl with | [_], _ => rfl
  have S54 : Src K mg "_law_some_number" t_l_some_number ["_law_feed_here"] := ⟨_, _, F54, PySem.W.mg_of X G a54, b54⟩
  have F55 := fun_mk (st := t_l_line) l55 c55 k55
  have b55 := F55.binds (ps := ["_law_node", "_law_x"]) fun _ _ _ _ _ _ us hl => match us, hl with | [_, _], _ => rfl
  have S55 : Src K mg "_law_line" t_l_line ["_law_node", "_law_x"] := ⟨_, _, F55, PySem.W.mg_of X G a55, b55⟩
  have F56 := fun_mk (st := t_l_needed) l56 c56 k56
  have b56 := F56.binds (ps := ["_law_nodes"]) fun _ _ _ _ _ _ us hl => match us, hl with | [_], _ => rfl
  have S56 : Src K mg "_law_needed" t_l_needed ["_law_nodes"] := ⟨_, _, F56, PySem.W.mg_of X G a56, b56⟩
  have F57 := fun_mk (st := t_l_few) l57 c57 k57
  have b57 := F57.binds (ps := ["_law_feed_here", "_law_most_here"]) fun _ _ _ _ _ _ us hl => match us, hl with | [_, _], _ => rfl
  have S57 : Src K mg "_law_few" t_l_few ["_law_feed_here", "_law_most_here"] := ⟨_, _, F57, PySem.W.mg_of X G a57, b57⟩
  have F58 := fun_mk (st := t_l_rates) l58 c58 k58
  have b58 := F58.binds (ps := ["_law_feed_here"]) fun _ _ _ _ _ _ us hl => match us, hl with | [_], _ => rfl
  have S58 : Src K mg "_law_rates" t_l_rates ["_law_feed_here"] := ⟨_, _, F58, PySem.W.mg_of X G a58, b58⟩
  have F59 := fun_mk (st := t_l_fits_right) l59 c59 k59
  have b59 := F59.binds (ps := ["_law_curve", "_law_low", "_law_high", "_law_found"]) fun _ _ _ _ _ _ us hl => match us, hl with | [_, _, _, _], _ => rfl
  have S59 : Src K mg "_law_fits_right" t_l_fits_right ["_law_curve", "_law_low", "_law_high", "_law_found"] := ⟨_, _, F59, PySem.W.mg_of X G a59, b59⟩
  have F60 := fun_mk (st := t_l_is_right) l60 c60 k60
  have b60 := F60.binds (ps := ["_law_feed_here", "_law_curve", "_law_other"]) fun _ _ _ _ _ _ us hl => match us, hl with | [_, _, _], _ => rfl
  have S60 : Src K mg "_law_is_right" t_l_is_right ["_law_feed_here", "_law_curve", "_law_other"] := ⟨_, _, F60, PySem.W.mg_of X G a60, b60⟩
  have F61 := fun_mk (st := t_law) l61 c61 k61
  refine ⟨PySem.W.fnOf "law" "law" (defArgs t_law) (defBody t_law) (defScope t_law) .none kV61 dc61 pm61 an61 cd61 ct61, fun s v => .of_eq rfl, fun base _ _ => ?_⟩
  have go : FnOk l.prog w K mg base CX0 16 fa (PySem.W.fnOf "law" "law" (defArgs t_law) (defBody t_law) (defScope t_law) .none kV61 dc61 pm61 an61 cd61 ct61) ["_law_script"] (sp_law K) := by
    have d_common_divisor := c_common_divisor (P := l.prog) (w := w) (c := ⟨K, C⟩) (mg := mg) (base := base) T S0 
    have d_exact := c_exact (P := l.prog) (w := w) (c := ⟨K, C⟩) (mg := mg) (base := base) T S1 (c_common_divisor := d_common_divisor)
    have d_is_integer := c_is_integer (P := l.prog) (w := w) (c := ⟨K, C⟩) (mg := mg) (base := base) T S2 
    have d_is_number := c_is_number (P := l.prog) (w := w) (c := ⟨K, C⟩) (mg := mg) (base := base) T S3 (c_is_integer := d_is_integer) (c_common_divisor := d_common_divisor)
    have d_plus := c_plus (P := l.prog) (w := w) (c := ⟨K, C⟩) (mg := mg) (base := base) T S4 (c_exact := d_exact)
    have d_negative := c_negative (P := l.prog) (w := w) (c := ⟨K, C⟩) (mg := mg) (base := base) T S5 
    have d_minus := c_minus (P := l.prog) (w := w) (c := ⟨K, C⟩) (mg := mg) (base := base) T S6 (c_plus := d_plus) (c_negative := d_negative)
    have d_product := c_product (P := l.prog) (w := w) (c := ⟨K, C⟩) (mg := mg) (base := base) T S7 (c_exact := d_exact)
    have d_quotient := c_quotient (P := l.prog) (w := w) (c := ⟨K, C⟩) (mg := mg) (base := base) T S8 (c_exact := d_exact)
    have d_is_less := c_is_less (P := l.prog) (w := w) (c := ⟨K, C⟩) (mg := mg) (base := base) T S9 
    have d_larger_of := c_larger_of (P := l.prog) (w := w) (c := ⟨K, C⟩) (mg := mg) (base := base) T S10 (c_is_less := d_is_less)
    have d_below := c_below (P := l.prog) (w := w) (c := ⟨K, C⟩) (mg := mg) (base := base) T S11 
    have d_above := c_above (P := l.prog) (w := w) (c := ⟨K, C⟩) (mg := mg) (base := base) T S12 
    have d_comes_before := c_comes_before (P := l.prog) (w := w) (c := ⟨K, C⟩) (mg := mg) (base := base) T S13 (c_is_less := d_is_less)
    have d_check_income := c_check_income (P := l.prog) (w := w) (c := ⟨K, C⟩) (mg := mg) (base := base) T S14 (c_is_less := d_is_less) (c_is_number := d_is_number)
    have d_are_nodes := c_are_nodes (P := l.prog) (w := w) (c := ⟨K, C⟩) (mg := mg) (base := base) T S15 (c_is_less := d_is_less) (c_is_number := d_is_number)
    have d_reached_by := c_reached_by (P := l.prog) (w := w) (c := ⟨K, C⟩) (mg := mg) (base := base) T S16 (c_plus := d_plus) (c_product := d_product) (c_minus := d_minus)
    have d_Curve := c_Curve (P := l.prog) (w := w) (c := ⟨K, C⟩) (mg := mg) (base := base) T S17 (c_are_nodes := d_are_nodes) (c_reached_by := d_reached_by)
    have d_node_near := c_node_near (P := l.prog) (w := w) (c := ⟨K, C⟩) (mg := mg) (base := base) T S18 (c_reached_by := d_reached_by) (c_is_less := d_is_less)
    have d_eq := c_eq (P := l.prog) (w := w) (c := ⟨K, C⟩) (mg := mg) (base := base) T S19 
    have d_call := c_call (P := l.prog) (w := w) (c := ⟨K, C⟩) (mg := mg) (base := base) T S20 (c_check_income := d_check_income) (c_node_near := d_node_near)
    have d_scaled_curve := c_scaled_curve (P := l.prog) (w := w) (c := ⟨K, C⟩) (mg := mg) (base := base) T S21 (c_Curve := d_Curve) (c_product := d_product)
    have d_in_ascending_order := c_in_ascending_order (P := l.prog) (w := w) (c := ⟨K, C⟩) (mg := mg) (base := base) T S22 (c_is_less := d_is_less)
    have d_all_incomes := c_all_incomes (P := l.prog) (w := w) (c := ⟨K, C⟩) (mg := mg) (base := base) T S23 (c_in_ascending_order := d_in_ascending_order)
    have d_node_sum := c_node_sum (P := l.prog) (w := w) (c := ⟨K, C⟩) (mg := mg) (base := base) T S24 (c_node_near := d_node_near) (c_plus := d_plus)
    have d_sum_of := c_sum_of (P := l.prog) (w := w) (c := ⟨K, C⟩) (mg := mg) (base := base) T S25 (c_Curve := d_Curve) (c_node_sum := d_node_sum) (c_all_incomes := d_all_incomes)
    have d_add := c_add (P := l.prog) (w := w) (c := ⟨K, C⟩) (mg := mg) (base := base) T S26 (c_sum_of := d_sum_of)
    have d_sub := c_sub (P := l.prog) (w := w) (c := ⟨K, C⟩) (mg := mg) (base := base) T S27 (c_sum_of := d_sum_of) (c_scaled_curve := d_scaled_curve)
    have d_larger_piece := c_larger_piece (P := l.prog) (w := w) (c := ⟨K, C⟩) (mg := mg) (base := base) T S28 (c_is_less := d_is_less) (c_larger_of := d_larger_of)
    have d_crossing := c_crossing (P := l.prog) (w := w) (c := ⟨K, C⟩) (mg := mg) (base := base) T S29 (c_quotient := d_quotient) (c_minus := d_minus) (c_is_less := d_is_less) (c_plus := d_plus)
    have d_larger_curve := c_larger_curve (P := l.prog) (w := w) (c := ⟨K, C⟩) (mg := mg) (base := base) T S30 (c_all_incomes := d_all_incomes) (c_Curve := d_Curve) (c_node_near := d_node_near) (c_crossing := d_crossing) (c_reached_by := d_reached_by) (c_larger_piece := d_larger_piece) (c_is_less := d_is_less) (c_larger_of := d_larger_of)
    have d_larger := c_larger (P := l.prog) (w := w) (c := ⟨K, C⟩) (mg := mg) (base := base) T S31 (c_larger_curve := d_larger_curve)
    have d_inside_cuts := c_inside_cuts (P := l.prog) (w := w) (c := ⟨K, C⟩) (mg := mg) (base := base) T S32 (c_below := d_below) (c_above := d_above)
    have d_highest_so_far := c_highest_so_far (P := l.prog) (w := w) (c := ⟨K, C⟩) (mg := mg) (base := base) T S33 (c_Curve := d_Curve) (c_larger_of := d_larger_of) (c_is_less := d_is_less) (c_plus := d_plus) (c_comes_before := d_comes_before) (c_quotient := d_quotient) (c_below := d_below) (c_reached_by := d_reached_by) (c_minus := d_minus) (c_inside_cuts := d_inside_cuts)
    have d_check_rates := c_check_rates (P := l.prog) (w := w) (c := ⟨K, C⟩) (mg := mg) (base := base) T S34 (c_is_less := d_is_less) (c_is_number := d_is_number)
    have d_line_curve := c_line_curve (P := l.prog) (w := w) (c := ⟨K, C⟩) (mg := mg) (base := base) T S35 (c_Curve := d_Curve)
    have d_number_at := c_number_at (P := l.prog) (w := w) (c := ⟨K, C⟩) (mg := mg) (base := base) T S36 (c_node_near := d_node_near) (c_reached_by := d_reached_by) (c_is_less := d_is_less)
    have d_are_steps_kept := c_are_steps_kept (P := l.prog) (w := w) (c := ⟨K, C⟩) (mg := mg) (base := base) T S37 (c_reached_by := d_reached_by) (c_is_less := d_is_less)
    have d_keeps_between := c_keeps_between (P := l.prog) (w := w) (c := ⟨K, C⟩) (mg := mg) (base := base) T S38 (c_check_rates := d_check_rates) (c_are_steps_kept := d_are_steps_kept) (c_is_less := d_is_less)
    have d_falling_nodes := c_falling_nodes (P := l.prog) (w := w) (c := ⟨K, C⟩) (mg := mg) (base := base) T S39 (c_plus := d_plus) (c_is_less := d_is_less) (c_quotient := d_quotient) (c_minus := d_minus) (c_larger_of := d_larger_of) (c_reached_by := d_reached_by)
    have d_highest_behind := c_highest_behind (P := l.prog) (w := w) (c := ⟨K, C⟩) (mg := mg) (base := base) T S40 (c_Curve := d_Curve) (c_is_less := d_is_less) (c_falling_nodes := d_falling_nodes) (c_larger_of := d_larger_of) (c_reached_by := d_reached_by)
    have d_least_between := c_least_between (P := l.prog) (w := w) (c := ⟨K, C⟩) (mg := mg) (base := base) T S41 (c_check_rates := d_check_rates) (c_is_less := d_is_less) (c_line_curve := d_line_curve) (c_add := d_add) (c_larger := d_larger) (c_highest_behind := d_highest_behind) (c_sub := d_sub) (c_highest_so_far := d_highest_so_far)
    have d_places_near := c_places_near (P := l.prog) (w := w) (c := ⟨K, C⟩) (mg := mg) (base := base) T S42 (c_is_less := d_is_less)
    have d_leads := c_leads (P := l.prog) (w := w) (c := ⟨K, C⟩) (mg := mg) (base := base) T S43 (c_number_at := d_number_at) (c_is_less := d_is_less) (c_minus := d_minus) (c_plus := d_plus) (c_product := d_product)
    have d_reached_from := c_reached_from (P := l.prog) (w := w) (c := ⟨K, C⟩) (mg := mg) (base := base) T S44 (c_least_between := d_least_between) (c_check_income := d_check_income) (c_call := d_call) (c_places_near := d_places_near) (c_leads := d_leads)
    have d_l_feed := c_l_feed (P := l.prog) (w := w) (c := ⟨K, C⟩) (mg := mg) (base := base) T S45 
    have d_l_take := c_l_take (P := l.prog) (w := w) (c := ⟨K, C⟩) (mg := mg) (base := base) T S46 
    have d_l_pick := c_l_pick (P := l.prog) (w := w) (c := ⟨K, C⟩) (mg := mg) (base := base) T S47 (c_l_take := d_l_take)
    have d_l_divisor := c_l_divisor (P := l.prog) (w := w) (c := ⟨K, C⟩) (mg := mg) (base := base) T S48 
    have d_l_number := c_l_number (P := l.prog) (w := w) (c := ⟨K, C⟩) (mg := mg) (base := base) T S49 (c_l_divisor := d_l_divisor)
    have d_l_plus := c_l_plus (P := l.prog) (w := w) (c := ⟨K, C⟩) (mg := mg) (base := base) T S50 (c_l_number := d_l_number)
    have d_l_minus := c_l_minus (P := l.prog) (w := w) (c := ⟨K, C⟩) (mg := mg) (base := base) T S51 (c_l_number := d_l_number)
    have d_l_by := c_l_by (P := l.prog) (w := w) (c := ⟨K, C⟩) (mg := mg) (base := base) T S52 (c_l_number := d_l_number)
    have d_l_less := c_l_less (P := l.prog) (w := w) (c := ⟨K, C⟩) (mg := mg) (base := base) T S53 
    have d_l_some_number := c_l_some_number (P := l.prog) (w := w) (c := ⟨K, C⟩) (mg := mg) (base := base) T S54 (c_l_pick := d_l_pick) (c_l_number := d_l_number) (c_l_take := d_l_take)
    have d_l_line := c_l_line (P := l.prog) (w := w) (c := ⟨K, C⟩) (mg := mg) (base := base) T S55 (c_l_plus := d_l_plus) (c_l_by := d_l_by) (c_l_minus := d_l_minus)
    have d_l_needed := c_l_needed (P := l.prog) (w := w) (c := ⟨K, C⟩) (mg := mg) (base := base) T S56 (c_l_line := d_l_line)
    have d_l_few := c_l_few (P := l.prog) (w := w) (c := ⟨K, C⟩) (mg := mg) (base := base) T S57 (c_l_needed := d_l_needed) (c_l_pick := d_l_pick) (c_l_take := d_l_take) (c_l_plus := d_l_plus) (c_l_some_number := d_l_some_number) (c_l_line := d_l_line)
    have d_l_rates := c_l_rates (P := l.prog) (w := w) (c := ⟨K, C⟩) (mg := mg) (base := base) T S58 (c_l_pick := d_l_pick) (c_l_less := d_l_less) (c_l_take := d_l_take)
    have d_l_fits_right := c_l_fits_right (P := l.prog) (w := w) (c := ⟨K, C⟩) (mg := mg) (base := base) T S59 (c_eq := d_eq) (c_least_between := d_least_between) (c_keeps_between := d_keeps_between) (c_larger := d_larger)
    have d_l_is_right := c_l_is_right (P := l.prog) (w := w) (c := ⟨K, C⟩) (mg := mg) (base := base) M T S60 (c_l_rates := d_l_rates) (c_least_between := d_least_between) (c_l_number := d_l_number) (c_eq := d_eq) (c_l_fits_right := d_l_fits_right) (c_larger := d_larger) (c_l_take := d_l_take) (c_reached_from := d_reached_from) (c_highest_so_far := d_highest_so_far)
    exact ok_law (P := l.prog) (w := w) (c := ⟨K, C⟩) (mg := mg) (base := base) M T F61 (c_l_feed := d_l_feed) (c_Curve := d_Curve) (c_l_few := d_l_few) (c_l_is_right := d_l_is_right)
  exact go
end K66
open PySem PySem.W PyProof.Rows in
set_option maxRecDepth 100000 in
set_option maxHeartbeats 0 in
theorem PySem.Challenge.cw_allincomes_k66_whole_least_curves_holds : PySem.Challenge.rw_allincomes_k66_whole_least_curves.Holds := by
  w_on; o_law; k_head; (case hw => w_witness2)
  k_fill
  refine L2.walk_of (l := PySem.Challenge.rw_allincomes_k66_whole_least_curves) (n := 63) (k := 16) (x := "_law_script") (CX := fun _ => L2.CX0) (sp := fun w => K66.sp_law _) rfl (by decide) rfl ⟨rfl, by decide, by decide⟩ (fun w h Y => PySem.W.kIn_of Y) ?F (fun _ _ a ns hl _ hS => ⟨a, ns, rfl, hS, hl, fun _ => rfl⟩) (fun _ _ _ _ _ h => h)
  case F =>
    intro w mg fa h KX G hmg
    refine' K66.all_mk K66.mth KX G hmg ?aC ?pg ?hd ?po ?sa ?mk ?kc ?nN ?sf ?ca ?cn ?ct ?cm ?ne ?aZ ?lZ ?aT ?lT ?lU ?z_abs ?z_len ?z_isinstance ?z_int ?z_bool ?z_tuple ?z_list ?z_all ?z_enumerate ?z_zip ?z_range ?z_max ?z_min ?a0 ?l0 ?c0 ?k0 ?a1 ?l1 ?c1 ?k1 ?a2 ?l2 ?c2 ?k2 ?a3 ?l3 ?c3 ?k3 ?a4 ?l4 ?c4 ?k4 ?a5 ?l5 ?c5 ?k5 ?a6 ?l6 ?c6 ?k6 ?a7 ?l7 ?c7 ?k7 ?a8 ?l8 ?c8 ?k8 ?a9 ?l9 ?c9 ?k9 ?a10 ?l10 ?c10 ?k10 ?a11 ?l11 ?c11 ?k11 ?a12 ?l12 ?c12 ?k12 ?a13 ?l13 ?c13 ?k13 ?a14 ?l14 ?c14 ?k14 ?a15 ?l15 ?c15 ?k15 ?a16 ?l16 ?c16 ?k16 ?a17 ?i17 ?l17 ?c17 ?k17 ?a18 ?l18 ?c18 ?k18 ?a19 ?i19 ?l19 ?c19 ?k19 ?a20 ?i20 ?l20 ?c20 ?k20 ?a21 ?l21 ?c21 ?k21 ?a22 ?l22 ?c22 ?k22 ?a23 ?l23 ?c23 ?k23 ?a24 ?l24 ?c24 ?k24 ?a25 ?l25 ?c25 ?k25 ?a26 ?i26 ?l26 ?c26 ?k26 ?a27 ?i27 ?l27 ?c27 ?k27 ?a28 ?l28 ?c28 ?k28 ?a29 ?l29 ?c29 ?k29 ?a30 ?l30 ?c30 ?k30 ?a31 ?i31 ?l31 ?c31 ?k31 ?a32 ?l32 ?c32 ?k32 ?a33 ?l33 ?c33 ?k33 ?a34 ?l34 ?c34 ?k34 ?a35 ?l35 ?c35 ?k35 ?a36 ?l36 ?c36 ?k36 ?a37 ?l37 ?c37 ?k37 ?a38 ?l38 ?c38 ?k38 ?a39 ?l39 ?c39 ?k39 ?a40 ?l40 ?c40 ?k40 ?a41 ?l41 ?c41 ?k41 ?a42 ?l42 ?c42 ?k42 ?a43 ?l43 ?c43 ?k43 ?a44 ?l44 ?c44 ?k44 ?a45 ?l45 ?c45 ?k45 ?a46 ?l46 ?c46 ?k46 ?a47 ?l47 ?c47 ?k47 ?a48 ?l48 ?c48 ?k48 ?a49 ?l49 ?c49 ?k49 ?a50 ?l50 ?c50 ?k50 ?a51 ?l51 ?c51 ?k51 ?a52 ?l52 ?c52 ?k52 ?a53 ?l53 ?c53 ?k53 ?a54 ?l54 ?c54 ?k54 ?a55 ?l55 ?c55 ?k55 ?a56 ?l56 ?c56 ?k56 ?a57 ?l57 ?c57 ?k57 ?a58 ?l58 ?c58 ?k58 ?a59 ?l59 ?c59 ?k59 ?a60 ?l60 ?c60 ?k60 ?a61 ?l61 ?c61 ?k61
    (case aC => k_is)
    (case pg => k_is)
    (case hd => k_is)
    (case po => k_is)
    (case sa => k_is)
    (case mk => k_is)
    (case kc => k_is)
    (case nN => k_is)
    (case sf => k_is)
    (case ca => k_is)
    (case cn => k_is)
    (case ct => k_is)
    (case cm => k_is)
    (case ne => k_is)
    (case aZ => k_is)
    (case lZ => k_is)
    (case aT => k_is)
    (case lT => k_is)
    (case lU => k_is)
    (case z_abs => k_is)
    (case z_len => k_is)
    (case z_isinstance => k_is)
    (case z_int => k_is)
    (case z_bool => k_is)
    (case z_tuple => k_is)
    (case z_list => k_is)
    (case z_all => k_is)
    (case z_enumerate => k_is)
    (case z_zip => k_is)
    (case z_range => k_is)
    (case z_max => k_is)
    (case z_min => k_is)
    (case a0 => k_is)
    (case l0 => k_is)
    (case c0 => k_is)
    (case k0 => k_is)
    (case a1 => k_is)
    (case l1 => k_is)
    (case c1 => k_is)
    (case k1 => k_is)
    (case a2 => k_is)
    (case l2 => k_is)
    (case c2 => k_is)
    (case k2 => k_is)
    (case a3 => k_is)
    (case l3 => k_is)
    (case c3 => k_is)
    (case k3 => k_is)
    (case a4 => k_is)
    (case l4 => k_is)
    (case c4 => k_is)
    (case k4 => k_is)
    (case a5 => k_is)
    (case l5 => k_is)
    (case c5 => k_is)
    (case k5 => k_is)
    (case a6 => k_is)
    (case l6 => k_is)
    (case c6 => k_is)
    (case k6 => k_is)
    (case a7 => k_is)
    (case l7 => k_is)
    (case c7 => k_is)
    (case k7 => k_is)
    (case a8 => k_is)
    (case l8 => k_is)
    (case c8 => k_is)
    (case k8 => k_is)
    (case a9 => k_is)
    (case l9 => k_is)
    (case c9 => k_is)
    (case k9 => k_is)
    (case a10 => k_is)
    (case l10 => k_is)
    (case c10 => k_is)
    (case k10 => k_is)
    (case a11 => k_is)
    (case l11 => k_is)
    (case c11 => k_is)
    (case k11 => k_is)
    (case a12 => k_is)
    (case l12 => k_is)
    (case c12 => k_is)
    (case k12 => k_is)
    (case a13 => k_is)
    (case l13 => k_is)
    (case c13 => k_is)
    (case k13 => k_is)
    (case a14 => k_is)
    (case l14 => k_is)
    (case c14 => k_is)
    (case k14 => k_is)
    (case a15 => k_is)
    (case l15 => k_is)
    (case c15 => k_is)
    (case k15 => k_is)
    (case a16 => k_is)
    (case l16 => k_is)
    (case c16 => k_is)
    (case k16 => k_is)
    (case a17 => k_is)
    (case i17 => k_is)
    (case l17 => k_is)
    (case c17 => k_is)
    (case k17 => k_is)
    (case a18 => k_is)
    (case l18 => k_is)
    (case c18 => k_is)
    (case k18 => k_is)
    (case a19 => k_is)
    (case i19 => k_is)
    (case l19 => k_is)
    (case c19 => k_is)
    (case k19 => k_is)
    (case a20 => k_is)
    (case i20 => k_is)
    (case l20 => k_is)
    (case c20 => k_is)
    (case k20 => k_is)
    (case a21 => k_is)
    (case l21 => k_is)
    (case c21 => k_is)
    (case k21 => k_is)
    (case a22 => k_is)
    (case l22 => k_is)
    (case c22 => k_is)
    (case k22 => k_is)
    (case a23 => k_is)
    (case l23 => k_is)
    (case c23 => k_is)
    (case k23 => k_is)
    (case a24 => k_is)
    (case l24 => k_is)
    (case c24 => k_is)
    (case k24 => k_is)
    (case a25 => k_is)
    (case l25 => k_is)
    (case c25 => k_is)
    (case k25 => k_is)
    (case a26 => k_is)
    (case i26 => k_is)
    (case l26 => k_is)
    (case c26 => k_is)
    (case k26 => k_is)
    (case a27 => k_is)
    (case i27 => k_is)
    (case l27 => k_is)
    (case c27 => k_is)
    (case k27 => k_is)
    (case a28 => k_is)
    (case l28 => k_is)
    (case c28 => k_is)
    (case k28 => k_is)
    (case a29 => k_is)
    (case l29 => k_is)
    (case c29 => k_is)
    (case k29 => k_is)
    (case a30 => k_is)
    (case l30 => k_is)
    (case c30 => k_is)
    (case k30 => k_is)
    (case a31 => k_is)
    (case i31 => k_is)
    (case l31 => k_is)
    (case c31 => k_is)
    (case k31 => k_is)
    (case a32 => k_is)
    (case l32 => k_is)
    (case c32 => k_is)
    (case k32 => k_is)
    (case a33 => k_is)
    (case l33 => k_is)
    (case c33 => k_is)
    (case k33 => k_is)
    (case a34 => k_is)
    (case l34 => k_is)
    (case c34 => k_is)
    (case k34 => k_is)
    (case a35 => k_is)
    (case l35 => k_is)
    (case c35 => k_is)
    (case k35 => k_is)
    (case a36 => k_is)
    (case l36 => k_is)
    (case c36 => k_is)
    (case k36 => k_is)
    (case a37 => k_is)
    (case l37 => k_is)
    (case c37 => k_is)
    (case k37 => k_is)
    (case a38 => k_is)
    (case l38 => k_is)
    (case c38 => k_is)
    (case k38 => k_is)
    (case a39 => k_is)
    (case l39 => k_is)
    (case c39 => k_is)
    (case k39 => k_is)
    (case a40 => k_is)
    (case l40 => k_is)
    (case c40 => k_is)
    (case k40 => k_is)
    (case a41 => k_is)
    (case l41 => k_is)
    (case c41 => k_is)
    (case k41 => k_is)
    (case a42 => k_is)
    (case l42 => k_is)
    (case c42 => k_is)
    (case k42 => k_is)
    (case a43 => k_is)
    (case l43 => k_is)
    (case c43 => k_is)
    (case k43 => k_is)
    (case a44 => k_is)
    (case l44 => k_is)
    (case c44 => k_is)
    (case k44 => k_is)
    (case a45 => k_is)
    (case l45 => k_is)
    (case c45 => k_is)
    (case k45 => k_is)
    (case a46 => k_is)
    (case l46 => k_is)
    (case c46 => k_is)
    (case k46 => k_is)
    (case a47 => k_is)
    (case l47 => k_is)
    (case c47 => k_is)
    (case k47 => k_is)
    (case a48 => k_is)
    (case l48 => k_is)
    (case c48 => k_is)
    (case k48 => k_is)
    (case a49 => k_is)
    (case l49 => k_is)
    (case c49 => k_is)
    (case k49 => k_is)
    (case a50 => k_is)
    (case l50 => k_is)
    (case c50 => k_is)
    (case k50 => k_is)
    (case a51 => k_is)
    (case l51 => k_is)
    (case c51 => k_is)
    (case k51 => k_is)
    (case a52 => k_is)
    (case l52 => k_is)
    (case c52 => k_is)
    (case k52 => k_is)
    (case a53 => k_is)
    (case l53 => k_is)
    (case c53 => k_is)
    (case k53 => k_is)
    (case a54 => k_is)
    (case l54 => k_is)
    (case c54 => k_is)
    (case k54 => k_is)
    (case a55 => k_is)
    (case l55 => k_is)
    (case c55 => k_is)
    (case k55 => k_is)
    (case a56 => k_is)
    (case l56 => k_is)
    (case c56 => k_is)
    (case k56 => k_is)
    (case a57 => k_is)
    (case l57 => k_is)
    (case c57 => k_is)
    (case k57 => k_is)
    (case a58 => k_is)
    (case l58 => k_is)
    (case c58 => k_is)
    (case k58 => k_is)
    (case a59 => k_is)
    (case l59 => k_is)
    (case c59 => k_is)
    (case k59 => k_is)
    (case a60 => k_is)
    (case l60 => k_is)
    (case c60 => k_is)
    (case k60 => k_is)
    (case a61 => k_is)
    (case l61 => k_is)
    (case c61 => k_is)
    (case k61 => k_is)
#print axioms PySem.Challenge.cw_allincomes_k66_whole_least_curves_holds
